/- Contracts of the program's functions: each Go function that is named below comes to what its Lean function says. Written by xprint.py (a program of this session's, over the kit's print). Conditions: each contract's own premises. -/
import Derived.Test.YtpdhccdmbdbdpaaYCheckNode0
import Derived.Test.YtpdhccdmbdbdpaaYCheckNode1
import Derived.Test.YtpdhccdmbdbdpaaYCheckNode3
import Derived.Test.YtpdhccdmbdbdpaaYCheckNode6
import Derived.Test.YtpdhccdmbdbdpaaYCheckNode8
import Derived.Test.YtpdhccdmbdbdpaaYCheckNode9
namespace Go.Proofs.Ytpdhccdmbdbdpaa.XA
open Go.RowKit Go.Proofs.YtpdhccdmbdbdpaaW.PrintWords Go.Proofs.YtpdhccdmbdbdpaaW.PrintLast Go.Proofs.YtpdhccdmbdbdpaaW.PrintMore XW
attribute [local go_sem] max2_int min2_int max_two min_two max_three min_three max_four min_four   -- for this text's walks alone
set_option linter.unusedVariables false
set_option linter.unusedSimpArgs false

/-! ### spec_l05Node: function 78 -/
def spec_l05Node.f (k : Nat) (l0 : List (S95)) (a1_0 : Int) (a1_1 : Int) (l1_2 : List (S43)) (a2_0 : Int) (a2_1 : Int) (a2_2 : Int) (a2_3 : ByteArray) (l2_4 : List Int) : Option (Int) := if a2_1 > (l0.length : Int) then (some 10) else (if 0 ≤ (wrap64 (a2_1 - 1)) then (if (wrap64 (a2_1 - 1)) < (l0.length : Int) then (if (rd_T95 l0 (wrap64 (a2_1 - 1))).f1 = true then (if (l2_4.length : Int) > 0 then (some 12) else (some 0)) else (if a2_3.toList = ([] : List UInt8) then ((spec_l05Kids.f k a1_0 a1_1 l1_2 a2_0 a2_1 a2_2 a2_3 l2_4).bind fun t247 => ((spec_l03Match.f k ((rd_T95 l0 (wrap64 (a2_1 - 1))).f2) t247).bind fun t250 => (if t250 = true then (some 0) else (some 12)))) else (some 12))) else (none)) else (none))
def spec_l05Node.T8 : Bool × List (List Nat × List Nat) := (true, [([], []), ([0], [0]), ([1], [1]), ([2], [2]), ([3], [3]), ([4, 3], [3, 4]), ([3], [3]), ([3], [3]), ([6, 7, 3, 3], [3, 6, 7]), ([5, 8, 8, 3], [3, 5, 8]), ([9, 3], [3, 9]), ([3, 10], [3, 10])])
def spec_l05Node.B8 : List Nat := [0, 1, 3, 7, 15, 31, 15, 15, 207, 511, 1023, 2047]
theorem spec_l05Node.tab8 : rtab .any (opsOf Try.f78 8) = spec_l05Node.T8 := by kernel_rfl
theorem spec_l05Node.bits8 : waitsOk spec_l05Node.T8.2 spec_l05Node.B8 = true := by kernel_rfl
set_option maxHeartbeats 8000000 in
set_option maxRecDepth 100000 in
theorem spec_l05Node.calls (k : Nat) (A0 : Option Addr) (c0 : Nat) (l0 : List (S95)) (a1_0 : Int) (a1_1 : Int) (A1_2 : Option Addr) (c1_2 : Nat) (l1_2 : List (S43)) (a2_0 : Int) (a2_1 : Int) (a2_2 : Int) (a2_3 : ByteArray) (A2_4 : Option Addr) (c2_4 : Nat) (l2_4 : List Int) (r : Int) (w : World) (hr0 : Kd.C k95 w A0 l0.length l0) (hc0 : l0.length ≤ c0) (hr1_2 : Kd.C k43 w A1_2 l1_2.length l1_2) (hc1_2 : l1_2.length ≤ c1_2) (hr2_4 : Kd.C (Kd.int .i64) w A2_4 l2_4.length l2_4) (hc2_4 : l2_4.length ≤ c2_4) (h : spec_l05Node.f k l0 a1_0 a1_1 l1_2 a2_0 a2_1 a2_2 a2_3 l2_4 = some r) :
  Calls Try.prog 78 #[.slice A0 l0.length c0, .agg #[.int .i64 a1_0, .int .i64 a1_1, .slice A1_2 l1_2.length c1_2], .agg #[.int .i64 a2_0, .int .i64 a2_1, .int .i64 a2_2, .string a2_3, .slice A2_4 l2_4.length c2_4]] w fun e w' => e = .returned (.int .i64 r) ∧ Below w.heap.size w w' := by
 have hu29 := Try.underlying29
 have hu43 := Try.underlying43
 have hu95 := Try.underlying95
 have HR0 := Aside0.mk hr0
 have HC0 := Aside0.mk hc0
 clear hr0 hc0
 have HR1_2 := Aside0.mk hr1_2
 have HC1_2 := Aside0.mk hc1_2
 clear hr1_2 hc1_2
 have HR2_4 := Aside0.mk hr2_4
 have HC2_4 := Aside0.mk hc2_4
 clear hr2_4 hc2_4
 have HB := Aside0.mk (Below.refl w.heap.size w)
 have H : (if a2_1 > (l0.length : Int) then (some 10) else (if 0 ≤ (wrap64 (a2_1 - 1)) then (if (wrap64 (a2_1 - 1)) < (l0.length : Int) then (if (rd_T95 l0 (wrap64 (a2_1 - 1))).f1 = true then (if (l2_4.length : Int) > 0 then (some 12) else (some 0)) else (if a2_3.toList = ([] : List UInt8) then ((spec_l05Kids.f k a1_0 a1_1 l1_2 a2_0 a2_1 a2_2 a2_3 l2_4).bind fun t247 => ((spec_l03Match.f k ((rd_T95 l0 (wrap64 (a2_1 - 1))).f2) t247).bind fun t250 => (if t250 = true then (some 0) else (some 12)))) else (some 12))) else (none)) else (none))) = some r := h
 clear h
 have HC4 := Aside0.mk H
 clear H
 go_enter Try.func78, Try.ntmps78
 go_upto_if 12 with (first | ((with_reducible refine gate_dst (N := 4) rfl ?_); refine Xbox 4 #[.int .i64 a1_0, .int .i64 a1_1, .slice A1_2 l1_2.length c1_2] 29 ?_; intro gb243 hg w5 hbox hb; have BK243 := Aside0.mk (hbox); have GE243 := Xge hg Xi; replace HB := Aside0.mk (below_step Xi hb); clear hb hbox hg) | ((with_reducible refine gate_dst (N := 5) rfl ?_); refine Xbox 5 #[.int .i64 a2_0, .int .i64 a2_1, .int .i64 a2_2, .string a2_3, .slice A2_4 l2_4.length c2_4] 43 ?_; intro gb244 hg w6 hbox hb; have BK244 := Aside0.mk (hbox); have GE244 := Xge hg Xi; replace HB := Aside0.mk (below_step Xi hb); have NB243_244 := Xnb hg BK243; have NB244_243 := Xns NB243_244; replace BK243 := Xbb BK243 hb; clear hb hbox hg; have hnb7 := NB244_243.out; have hnc7 := NB243_244.out; obtain ⟨hcz8_0, hcz8_1, hcz8_2, hcz8_3, hcz8_4⟩ := Xc5 BK244; obtain ⟨hfz8_0, hfz8_1, hfz8_2, hfz8_3, hfz8_4⟩ := Xf5 BK244))
 have H := HC4.out
 clear HC4
 obtain ⟨c9, H⟩ | ⟨c9, H⟩ := Xiu H
 ·have c9b0 : decide ((l0.length : Int) < a2_1) = true := decide_eq_true c9
  clear c9
  (first | rw [c9b0] | (simp only [i64_w, i32_w]; rw [c9b0]) | skip)
  obtain rfl := Option.some.inj H
  go_wp2
  go_ret
  exact ⟨Xe, Xi⟩
 ·have c9b0 : decide ((l0.length : Int) < a2_1) = false := decide_eq_false c9
  clear c9
  (first | rw [c9b0] | (simp only [i64_w, i32_w]; rw [c9b0]) | skip)
  obtain ⟨ji10, hji10⟩ : ∃ j_ : Int, (wrap64 (a2_1 - 1)) = j_ := ⟨_, rfl⟩
  replace H : (if 0 ≤ (ji10) then (if (ji10) < (l0.length : Int) then (if (rd_T95 l0 (ji10)).f1 = true then (if (l2_4.length : Int) > 0 then (some 12) else (some 0)) else (if a2_3.toList = ([] : List UInt8) then ((spec_l05Kids.f k a1_0 a1_1 l1_2 a2_0 a2_1 a2_2 a2_3 l2_4).bind fun t247 => ((spec_l03Match.f k ((rd_T95 l0 (ji10)).f2) t247).bind fun t250 => (if t250 = true then (some 0) else (some 12)))) else (some 12))) else (none)) else (none)) = some r := by first | (rw [hji10] at H; exact H) | (simp only [hji10] at H ⊢; exact H)
  have hji10w : (IntKind.i64.wrap (a2_1 - 1)) = ji10 := (i64_w _).trans hji10
  obtain ⟨c11, H⟩ | ⟨c11, H⟩ := Xiu H
  ·have c11b0 : decide (0 ≤ (ji10)) = true := decide_eq_true c11
   clear c11
   obtain ⟨c12b0, H⟩ := Xid H
   have HC13 := Aside0.mk H
   clear H
   have hnb14 := NB244_243.out
   have hnc14 := NB243_244.out
   obtain ⟨hcz15_0, hcz15_1, hcz15_2, hcz15_3, hcz15_4⟩ := Xc5 BK244
   obtain ⟨hfz15_0, hfz15_1, hfz15_2, hfz15_3, hfz15_4⟩ := Xf5 BK244
   obtain ⟨ad245, A245_2, c245_2, e245, p245, q245, hx245_0, hx245_1, hx245_2, HC245_2, HR245_2⟩ := at_B95 HR0 (ji10) Xa Xa HB
   cases e245
   go_upto_if 20 with (first | ((with_reducible refine gate_dst (N := 7) rfl ?_); refine Xbox 7 #[.string (⟨#[]⟩ : ByteArray), .bool false, .slice none 0 0] 95 ?_; intro gb246 hg w16 hbox hb; have BK246 := Aside0.mk (hbox); have GE246 := Xge hg Xi; replace HB := Aside0.mk (below_step Xi hb); have NB243_246 := Xnb hg BK243; have NB246_243 := Xns NB243_246; replace BK243 := Xbb BK243 hb; have NB244_246 := Xnb hg BK244; have NB246_244 := Xns NB244_246; replace BK244 := Xbb BK244 hb; clear hb hbox hg; have hnb17 := NB246_243.out; have hnc17 := NB243_246.out; have hnb18 := NB246_244.out; have hnc18 := NB244_246.out; obtain ⟨hcz19_0, hcz19_1, hcz19_2⟩ := Xc3 BK246; obtain ⟨hfz19_0, hfz19_1, hfz19_2⟩ := Xf3 BK246) | ((with_reducible refine gate_store (t := 95) (p := 7) rfl ?_); refine store_event (t := 95) (p := 7) (v := ?vo_w20) (w1 := (((w16.setCell ⟨gb246, 0, none⟩ (.string ((rd_T95 l0 (ji10)).f0))).setCell ⟨gb246, 1, none⟩ (.bool ((rd_T95 l0 (ji10)).f1))).setCell ⟨gb246, 2, none⟩ (.slice A245_2 ((rd_T95 l0 (ji10)).f2).length c245_2))) ?hg ?ho ?hn ?hr ?_; (case ho => rfl); (case hg => rfl); (case hn => rfl); (case hr => first | (go_simp; done) | (go_simp; rfl)); intro w20 hw; have n0_ : Aside0 (w20.heap[gb243]? = some (.cells #[.int .i64 a1_0, .int .i64 a1_1, .slice A1_2 l1_2.length c1_2] 29 (0, 0))) := ⟨(by rw [hw]; exact (by (with_reducible repeat (first | refine blk_drewN ?_ _ | refine blk_drew ?_ | refine blk_alloc ?_ _)); refine blk_far ?_ NB243_246.out _; (with_reducible repeat (first | refine blk_drewN ?_ _ | refine blk_drew ?_ | refine blk_alloc ?_ _)); refine blk_far ?_ NB243_246.out _; (with_reducible repeat (first | refine blk_drewN ?_ _ | refine blk_drew ?_ | refine blk_alloc ?_ _)); refine blk_far ?_ NB243_246.out _; (with_reducible repeat (first | refine blk_drewN ?_ _ | refine blk_drew ?_ | refine blk_alloc ?_ _)); exact BK243.out))⟩; have n1_ : Aside0 (w20.heap[gb244]? = some (.cells #[.int .i64 a2_0, .int .i64 a2_1, .int .i64 a2_2, .string a2_3, .slice A2_4 l2_4.length c2_4] 43 (0, 0))) := ⟨(by rw [hw]; exact (by (with_reducible repeat (first | refine blk_drewN ?_ _ | refine blk_drew ?_ | refine blk_alloc ?_ _)); refine blk_far ?_ NB244_246.out _; (with_reducible repeat (first | refine blk_drewN ?_ _ | refine blk_drew ?_ | refine blk_alloc ?_ _)); refine blk_far ?_ NB244_246.out _; (with_reducible repeat (first | refine blk_drewN ?_ _ | refine blk_drew ?_ | refine blk_alloc ?_ _)); refine blk_far ?_ NB244_246.out _; (with_reducible repeat (first | refine blk_drewN ?_ _ | refine blk_drew ?_ | refine blk_alloc ?_ _)); exact BK244.out))⟩; have n2_ : Aside0 (w20.heap[gb246]? = some (.cells #[.string ((rd_T95 l0 (ji10)).f0), .bool ((rd_T95 l0 (ji10)).f1), .slice A245_2 ((rd_T95 l0 (ji10)).f2).length c245_2] 95 (0, 0))) := ⟨(by rw [hw]; exact (by (with_reducible repeat (first | refine blk_drewN ?_ _ | refine blk_drew ?_ | refine blk_alloc ?_ _)); refine blk_put (cs := #[.string ((rd_T95 l0 (ji10)).f0), .bool ((rd_T95 l0 (ji10)).f1), .slice none 0 0]) ?_ 2 _ rfl; (with_reducible repeat (first | refine blk_drewN ?_ _ | refine blk_drew ?_ | refine blk_alloc ?_ _)); refine blk_put (cs := #[.string ((rd_T95 l0 (ji10)).f0), .bool false, .slice none 0 0]) ?_ 1 _ rfl; (with_reducible repeat (first | refine blk_drewN ?_ _ | refine blk_drew ?_ | refine blk_alloc ?_ _)); refine blk_put (cs := #[.string (⟨#[]⟩ : ByteArray), .bool false, .slice none 0 0]) ?_ 0 _ rfl; (with_reducible repeat (first | refine blk_drewN ?_ _ | refine blk_drew ?_ | refine blk_alloc ?_ _)); exact BK246.out))⟩; have n3_ : Aside0 (Below w.heap.size w w20) := ⟨(by rw [hw]; exact Xi)⟩; clear hw; clear BK243; clear BK244; clear BK246; clear HB; have BK243 := n0_; have BK244 := n1_; have BK246 := n2_; have HB := n3_; clear n0_ n1_ n2_ n3_; obtain ⟨hcz21_0, hcz21_1, hcz21_2⟩ := Xc3 BK246; obtain ⟨hfz21_0, hfz21_1, hfz21_2⟩ := Xf3 BK246))
   have H := HC13.out
   clear HC13
   obtain ⟨bq22, hbq22⟩ : ∃ b_ : Bool, b_ = ((rd_T95 l0 (ji10)).f1) := ⟨_, rfl⟩
   replace H : (if bq22 = true then (if (l2_4.length : Int) > 0 then (some 12) else (some 0)) else (if a2_3.toList = ([] : List UInt8) then ((spec_l05Kids.f k a1_0 a1_1 l1_2 a2_0 a2_1 a2_2 a2_3 l2_4).bind fun t247 => ((spec_l03Match.f k ((rd_T95 l0 (ji10)).f2) t247).bind fun t250 => (if t250 = true then (some 0) else (some 12)))) else (some 12))) = some r := by rw [← hbq22] at H; exact H
   have Nbq22 := Aside0.mk hbq22
   clear hbq22
   (try rw [← Nbq22.out] at BK243)
   (try rw [← Nbq22.out] at BK244)
   (try rw [← Nbq22.out] at BK246)
   (try rw [← Nbq22.out])
   by_cases c23 : bq22 = true
   ·subst c23
    (first | rw [if_pos rfl] at H | skip)
    obtain ⟨c24, H⟩ | ⟨c24, H⟩ := Xiu H
    ·have c24b0 : decide (0 < (l2_4.length : Int)) = true := decide_eq_true c24
     have c24b1 : decide (0 < l2_4.length) = true := decide_eq_true (by omega)
     clear c24
     obtain rfl := Option.some.inj H
     have hnb25 := NB244_243.out
     have hnc25 := NB243_244.out
     have hnb26 := NB244_246.out
     have hnc26 := NB246_244.out
     obtain ⟨hcz27_0, hcz27_1, hcz27_2, hcz27_3, hcz27_4⟩ := Xc5 BK244
     obtain ⟨hfz27_0, hfz27_1, hfz27_2, hfz27_3, hfz27_4⟩ := Xf5 BK244
     go_wp2
     go_ret
     exact ⟨by first | rfl | (simp [errW_none, errW_some] <;> rfl) | (simp only [← hji10]; first | rfl | (simp [errW_none, errW_some] <;> rfl)) | (simp [*, errW_none, errW_some] <;> rfl), Xi⟩
    ·have c24b0 : decide (0 < (l2_4.length : Int)) = false := decide_eq_false c24
     have c24b1 : decide (0 < l2_4.length) = false := decide_eq_false (by omega)
     clear c24
     obtain rfl := Option.some.inj H
     have hnb28 := NB244_243.out
     have hnc28 := NB243_244.out
     have hnb29 := NB244_246.out
     have hnc29 := NB246_244.out
     obtain ⟨hcz30_0, hcz30_1, hcz30_2, hcz30_3, hcz30_4⟩ := Xc5 BK244
     obtain ⟨hfz30_0, hfz30_1, hfz30_2, hfz30_3, hfz30_4⟩ := Xf5 BK244
     go_wp2
     go_ret
     exact ⟨by first | rfl | (simp [errW_none, errW_some] <;> rfl) | (simp only [← hji10]; first | rfl | (simp [errW_none, errW_some] <;> rfl)) | (simp [*, errW_none, errW_some] <;> rfl), Xi⟩
   ·replace c23 := Bool.eq_false_iff.mpr c23
    subst c23
    (first | rw [if_neg (show ¬ (false = true) by decide)] at H | skip)
    obtain ⟨c31, H⟩ | ⟨c31, H⟩ := Xiu H
    ·have c31b0 : (a2_3.toList == ([] : List UInt8)) = true := beq_iff_eq.mpr c31
     have c31b1 : (a2_3.toList != ([] : List UInt8)) = false := bne_eq_false_iff_eq.mpr c31
     clear c31
     obtain ⟨t247, A32, H⟩ := Xbi H
     (try dsimp only at H)
     obtain ⟨t250, A33, H⟩ := Xbi H
     (try dsimp only at H)
     have HC34 := Aside0.mk H
     clear H
     try go_wp2_with (fail)
     replace BK243 := Aside0.mk (blk_drew BK243.out)
     replace BK244 := Aside0.mk (blk_drew BK244.out)
     replace BK246 := Aside0.mk (blk_drew BK246.out)
     replace HB := Aside0.mk (below_drew1 HB.out)
     refine start_ (n := 12) (S := fun w' => w'.cell? ⟨gb244, 0, none⟩ = some (.int .i64 a2_0) ∧ w'.cell? ⟨gb244, 1, none⟩ = some (.int .i64 a2_1) ∧ w'.cell? ⟨gb244, 2, none⟩ = some (.int .i64 a2_2) ∧ w'.cell? ⟨gb244, 3, none⟩ = some (.string a2_3) ∧ w'.cell? ⟨gb244, 4, none⟩ = some (.slice A2_4 l2_4.length c2_4) ∧ w'.cell? ⟨gb246, 0, none⟩ = some (.string ((rd_T95 l0 (ji10)).f0)) ∧ w'.cell? ⟨gb246, 1, none⟩ = some (.bool false) ∧ w'.cell? ⟨gb246, 2, none⟩ = some (.slice A245_2 ((rd_T95 l0 (ji10)).f2).length c245_2) ∧ w'.cell? ⟨gb243, 0, none⟩ = some (.int .i64 a1_0) ∧ w'.cell? ⟨gb243, 1, none⟩ = some (.int .i64 a1_1) ∧ w'.cell? ⟨gb243, 2, none⟩ = some (.slice A1_2 l1_2.length c1_2)) (ds := []) #[false, false, false, false, false, false, false, false, false, false, false, false] (by kernel_rfl) rfl rfl ⟨(blk_cell BK244.out 0).trans rfl, (blk_cell BK244.out 1).trans rfl, (blk_cell BK244.out 2).trans rfl, (blk_cell BK244.out 3).trans rfl, (blk_cell BK244.out 4).trans rfl, (blk_cell BK246.out 0).trans rfl, (blk_cell BK246.out 1).trans rfl, (blk_cell BK246.out 2).trans rfl, (blk_cell BK243.out 0).trans rfl, (blk_cell BK243.out 1).trans rfl, (blk_cell BK243.out 2).trans rfl⟩ (fun hHeld => ?_); refine with_tabW spec_l05Node.tab8 spec_l05Node.bits8 (fun HT_ HW_ => ?_)
     generalize w20.drew = w35 at BK243 BK244 BK246 HB hHeld ⊢
     refine Xpu 0 25 (XW.bs 12 1) HT_.out ?_
     refine Xta 1 26 (XW.bs 12 3) HT_.out HW_.out hHeld ?_
     refine Xpu 2 27 (XW.bs 12 7) HT_.out ?_
     refine Xpu 3 28 (XW.bs 12 15) HT_.out ?_
     refine Xpu 4 29 (XW.bs 12 31) HT_.out ?_
     refine Xta 5 30 (XW.bs 12 63) HT_.out HW_.out hHeld ?_
     refine Xta 6 31 (XW.bs 12 127) HT_.out HW_.out hHeld ?_
     refine Xta 7 32 (XW.bs 12 255) HT_.out HW_.out hHeld ?_
     refine one_ (i := 8) (N := some 33) (XW.bs 12 511) rfl rfl (one_of HT_.out (by kernel_rfl)) (by decide) (fun K hK => ?_)
     refine goes_ Try.func91 (by kernel_rfl) rfl #[.agg #[.int .i64 a1_0, .int .i64 a1_1, .slice A1_2 l1_2.length c1_2], .agg #[.int .i64 a2_0, .int .i64 a2_1, .int .i64 a2_2, .string a2_3, .slice A2_4 l2_4.length c2_4]] (by rfl) rfl rfl (by (try simp only [List.map_toArray, List.map_cons, List.map_nil]); first | done | rfl | (simp only [List.length_drop, List.length_take]; rfl)) ?_
     with_reducible refine (spec_l05Kids.calls k a1_0 a1_1 _ _ l1_2 a2_0 a2_1 a2_2 a2_3 _ _ l2_4 t247 _ ?side1 ?side2 ?side3 ?side4 A32.out).mono ?_
     (case side1 => exact Xc HR1_2)
     (case side2 => exact HC1_2.out)
     (case side3 => exact Xc HR2_4)
     (case side4 => exact HC2_4.out)
     rintro e w36 ⟨v248, rfl, ho0, hb⟩
     refine ⟨_, rfl, ?_⟩
     have HO249 := Aside0.mk (Kd.R_lower ho0 (below_size Xi))
     replace BK243 := Xbb BK243 hb
     replace BK244 := Xbb BK244 hb
     replace BK246 := Xbb BK246 hb
     replace HB := Aside0.mk (below_step Xi hb)
     (try clear hb)
     (try clear hb2)
     (try clear hk)
     (try clear hi)
     (try clear ho0)
     obtain ⟨Ao37, co37, eo37⟩ := Kd.R_slice HO249.out
     (first | subst eo37 | (injection eo37 with f1_ f2_ f3_; have f4_ := f1_.symm; have f5_ := f3_.symm; clear f1_ f2_ f3_; subst f4_; subst f5_))
     refine hK.out _ _ ⟨(blk_cell BK244.out 0).trans rfl, (blk_cell BK244.out 1).trans rfl, (blk_cell BK244.out 2).trans rfl, (blk_cell BK244.out 3).trans rfl, (blk_cell BK244.out 4).trans rfl, (blk_cell BK246.out 0).trans rfl, (blk_cell BK246.out 1).trans rfl, (blk_cell BK246.out 2).trans rfl, (blk_cell BK243.out 0).trans rfl, (blk_cell BK243.out 1).trans rfl, (blk_cell BK243.out 2).trans rfl⟩ (fun hHeld => ?_)
     clear hK K
     refine Xno ?_
     refine one_ (i := 9) (N := some 34) (XW.bs 12 1023) rfl rfl (one_of HT_.out (by kernel_rfl)) (by decide) (fun K hK => ?_)
     refine goes_ Try.func92 (by kernel_rfl) rfl #[.slice A245_2 ((rd_T95 l0 (ji10)).f2).length c245_2, .slice Ao37 t247.length co37] (by rfl) rfl rfl (by (try simp only [List.map_toArray, List.map_cons, List.map_nil]); first | done | (simp only [hji10]; rfl) | rfl | (simp only [List.length_drop, List.length_take]; rfl)) ?_
     with_reducible refine (spec_l03Match.calls k _ _ ((rd_T95 l0 (ji10)).f2) _ _ t247 t250 _ ?side1 ?side2 ?side3 ?side4 A33.out).mono ?_
     (case side1 => exact Xc HR245_2)
     (case side2 => exact HC245_2.out)
     (case side3 => repeat (first | exact (Kd.R_reads' HO249.out).2.2 | (with_reducible first | refine Kd.C_alloc ?_ _ | refine Kd.C_drewN ?_ _ | refine Kd.C_drew ?_)))
     (case side4 => exact (Kd.R_reads' HO249.out).2.1)
     rintro e w38 ⟨rfl, hb⟩
     refine ⟨_, rfl, ?_⟩
     replace HO249 := Aside0.mk (Kd.R_below (Xq HO249) hb)
     replace BK243 := Xbb BK243 hb
     replace BK244 := Xbb BK244 hb
     replace BK246 := Xbb BK246 hb
     replace HB := Aside0.mk (below_step Xi hb)
     (try clear hb)
     (try clear hb2)
     (try clear hk)
     (try clear hi)
     refine hK.out _ _ ⟨(blk_cell BK244.out 0).trans rfl, (blk_cell BK244.out 1).trans rfl, (blk_cell BK244.out 2).trans rfl, (blk_cell BK244.out 3).trans rfl, (blk_cell BK244.out 4).trans rfl, (blk_cell BK246.out 0).trans rfl, (blk_cell BK246.out 1).trans rfl, (blk_cell BK246.out 2).trans rfl, (blk_cell BK243.out 0).trans rfl, (blk_cell BK243.out 1).trans rfl, (blk_cell BK243.out 2).trans rfl⟩ (fun hHeld => ?_)
     clear hK K
     refine Xno ?_
     refine Xpu 10 35 (XW.bs 12 2047) HT_.out ?_
     refine Xpu 11 36 (XW.bs 12 4095) HT_.out ?_
     refine done_ (done_of HT_.out (by kernel_rfl)) ?_
     go_upto_if 36 with (fail)
     have H := HC34.out
     clear HC34
     by_cases c39 : t250 = true
     ·subst c39
      (first | rw [if_pos rfl] at H | skip)
      obtain rfl := Option.some.inj H
      go_wp2
      go_ret
      exact ⟨by first | rfl | (simp [errW_none, errW_some] <;> rfl) | (simp only [← hji10]; first | rfl | (simp [errW_none, errW_some] <;> rfl)) | (simp [*, errW_none, errW_some] <;> rfl), Xi⟩
     ·replace c39 := Bool.eq_false_iff.mpr c39
      subst c39
      (first | rw [if_neg (show ¬ (false = true) by decide)] at H | skip)
      obtain rfl := Option.some.inj H
      go_wp2
      go_ret
      exact ⟨by first | rfl | (simp [errW_none, errW_some] <;> rfl) | (simp only [← hji10]; first | rfl | (simp [errW_none, errW_some] <;> rfl)) | (simp [*, errW_none, errW_some] <;> rfl), Xi⟩
    ·have c31b0 : (a2_3.toList == ([] : List UInt8)) = false := beq_eq_false_iff_ne.mpr c31
     have c31b1 : (a2_3.toList != ([] : List UInt8)) = true := bne_iff_ne.mpr c31
     obtain rfl := Option.some.inj H
     try go_wp2_with (fail)
     replace BK243 := Aside0.mk (blk_drew BK243.out)
     replace BK244 := Aside0.mk (blk_drew BK244.out)
     replace BK246 := Aside0.mk (blk_drew BK246.out)
     replace HB := Aside0.mk (below_drew1 HB.out)
     refine start_ (n := 12) (S := fun w' => w'.cell? ⟨gb244, 0, none⟩ = some (.int .i64 a2_0) ∧ w'.cell? ⟨gb244, 1, none⟩ = some (.int .i64 a2_1) ∧ w'.cell? ⟨gb244, 2, none⟩ = some (.int .i64 a2_2) ∧ w'.cell? ⟨gb244, 3, none⟩ = some (.string a2_3) ∧ w'.cell? ⟨gb244, 4, none⟩ = some (.slice A2_4 l2_4.length c2_4)) (ds := []) #[false, false, false, false, false, false, false, false, false, false, false, false] (by kernel_rfl) rfl rfl ⟨(blk_cell BK244.out 0).trans rfl, (blk_cell BK244.out 1).trans rfl, (blk_cell BK244.out 2).trans rfl, (blk_cell BK244.out 3).trans rfl, (blk_cell BK244.out 4).trans rfl⟩ (fun hHeld => ?_); refine with_tabW spec_l05Node.tab8 spec_l05Node.bits8 (fun HT_ HW_ => ?_)
     generalize w20.drew = w40 at BK243 BK244 BK246 HB hHeld ⊢
     refine Xpu 0 25 (XW.bs 12 1) HT_.out ?_
     refine Xta 1 26 (XW.bs 12 3) HT_.out HW_.out hHeld ?_
     refine Xpu 2 27 (XW.bs 12 7) HT_.out ?_
     refine Xpu 3 28 (XW.bs 12 15) HT_.out ?_
     refine Xpn 4 29 (XW.bs 12 31) HT_.out ?_
     refine Xpn 5 30 (XW.bs 12 63) HT_.out ?_
     refine Xpn 6 31 (XW.bs 12 127) HT_.out ?_
     refine Xpn 7 32 (XW.bs 12 255) HT_.out ?_
     refine Xpn 8 33 (XW.bs 12 511) HT_.out ?_
     refine Xpn 9 34 (XW.bs 12 1023) HT_.out ?_
     refine Xpn 10 35 (XW.bs 12 2047) HT_.out ?_
     refine Xpu 11 36 (XW.bs 12 4095) HT_.out ?_
     refine done_ (done_of HT_.out (by kernel_rfl)) ?_
     try go_wp2_with (fail)
     go_ret
     exact ⟨by first | rfl | (simp [errW_none, errW_some] <;> rfl) | (simp only [← hji10]; first | rfl | (simp [errW_none, errW_some] <;> rfl)) | (simp [*, errW_none, errW_some] <;> rfl), Xi⟩
  ·exact absurd H (by simp)

/-! ### spec_CheckNode: function 38 -/
def spec_CheckNode.f (k : Nat) (l0 : List (S95)) (a1_0 : Int) (a1_1 : Int) (l1_2 : List (S43)) (a2 : Int) : Option (Int) := if (l0.length : Int) > 4096 then (some 2) else ((spec_l03OK.f k l0).bind fun t252 => (if t252 = true then ((spec_l02Ask.f k a1_0 a1_1 l1_2 a2).bind fun t253 => (if t253 = 0 then ((spec_l02At.f k a1_0 a1_1 l1_2 a2).bind fun t254 => (if 0 ≤ t254 then (if t254 < (l1_2.length : Int) then ((spec_l05Node.f k l0 a1_0 a1_1 l1_2 ((rd_T43 l1_2 t254).f0) ((rd_T43 l1_2 t254).f1) ((rd_T43 l1_2 t254).f2) ((rd_T43 l1_2 t254).f3) ((rd_T43 l1_2 t254).f4)).bind fun t256 => (some t256)) else (none)) else (none))) else (some t253))) else (some 1)))
def spec_CheckNode.T8 : Bool × List (List Nat × List Nat) := (true, [([], []), ([], []), ([], []), ([2], [2]), ([], []), ([], []), ([4, 5], [4, 5]), ([3, 6], [3, 6]), ([7], [7]), ([0, 1, 8, 6], [0, 1, 8]), ([9, 9, 0, 1, 2, 3, 4, 5, 6, 7, 8, 9], [9])])
def spec_CheckNode.B8 : List Nat := [0, 0, 0, 4, 0, 0, 48, 124, 252, 511, 1023]
theorem spec_CheckNode.tab8 : rtab .any (opsOf Try.f38 8) = spec_CheckNode.T8 := by kernel_rfl
theorem spec_CheckNode.bits8 : waitsOk spec_CheckNode.T8.2 spec_CheckNode.B8 = true := by kernel_rfl
set_option maxHeartbeats 8000000 in
set_option maxRecDepth 100000 in
theorem spec_CheckNode.calls (k : Nat) (A0 : Option Addr) (c0 : Nat) (l0 : List (S95)) (a1_0 : Int) (a1_1 : Int) (A1_2 : Option Addr) (c1_2 : Nat) (l1_2 : List (S43)) (a2 : Int) (r : Int) (w : World) (hr0 : Kd.C k95 w A0 l0.length l0) (hc0 : l0.length ≤ c0) (hr1_2 : Kd.C k43 w A1_2 l1_2.length l1_2) (hc1_2 : l1_2.length ≤ c1_2) (h : spec_CheckNode.f k l0 a1_0 a1_1 l1_2 a2 = some r) :
  Calls Try.prog 38 #[.slice A0 l0.length c0, .agg #[.int .i64 a1_0, .int .i64 a1_1, .slice A1_2 l1_2.length c1_2], .int .i64 a2] w fun e w' => e = .returned (.int .i64 r) ∧ Below w.heap.size w w' := by
 have hu29 := Try.underlying29
 have hu43 := Try.underlying43
 have HR0 := Aside0.mk hr0
 have HC0 := Aside0.mk hc0
 clear hr0 hc0
 have HR1_2 := Aside0.mk hr1_2
 have HC1_2 := Aside0.mk hc1_2
 clear hr1_2 hc1_2
 have HB := Aside0.mk (Below.refl w.heap.size w)
 have H : (if (l0.length : Int) > 4096 then (some 2) else ((spec_l03OK.f k l0).bind fun t252 => (if t252 = true then ((spec_l02Ask.f k a1_0 a1_1 l1_2 a2).bind fun t253 => (if t253 = 0 then ((spec_l02At.f k a1_0 a1_1 l1_2 a2).bind fun t254 => (if 0 ≤ t254 then (if t254 < (l1_2.length : Int) then ((spec_l05Node.f k l0 a1_0 a1_1 l1_2 ((rd_T43 l1_2 t254).f0) ((rd_T43 l1_2 t254).f1) ((rd_T43 l1_2 t254).f2) ((rd_T43 l1_2 t254).f3) ((rd_T43 l1_2 t254).f4)).bind fun t256 => (some t256)) else (none)) else (none))) else (some t253))) else (some 1)))) = some r := h
 clear h
 have HC4 := Aside0.mk H
 clear H
 go_enter Try.func38, Try.ntmps38
 go_upto_if 10 with (first | ((with_reducible refine gate_dst (N := 4) rfl ?_); refine Xbox 4 #[.int .i64 a1_0, .int .i64 a1_1, .slice A1_2 l1_2.length c1_2] 29 ?_; intro gb251 hg w5 hbox hb; have BK251 := Aside0.mk (hbox); have GE251 := Xge hg Xi; replace HB := Aside0.mk (below_step Xi hb); clear hb hbox hg))
 have H := HC4.out
 clear HC4
 obtain ⟨c6, H⟩ | ⟨c6, H⟩ := Xiu H
 ·have c6b0 : decide (4096 < (l0.length : Int)) = true := decide_eq_true c6
  have c6b1 : decide (4096 < l0.length) = true := decide_eq_true (by omega)
  clear c6
  (first | rw [c6b0] | (simp only [i64_w, i32_w]; rw [c6b0]) | skip)
  obtain rfl := Option.some.inj H
  go_wp2
  go_ret
  exact ⟨Xe, Xi⟩
 ·have c6b0 : decide (4096 < (l0.length : Int)) = false := decide_eq_false c6
  have c6b1 : decide (4096 < l0.length) = false := decide_eq_false (by omega)
  clear c6
  (first | rw [c6b0] | (simp only [i64_w, i32_w]; rw [c6b0]) | skip)
  obtain ⟨t252, A7, H⟩ := Xbi H
  (try dsimp only at H)
  have HC8 := Aside0.mk H
  clear H
  go_upto_if 13 with (first | ((with_reducible refine gate_callee (f := 77) rfl ?_); refine Xgo 12 Try.func77 #[.slice A0 l0.length c0] ?_; (with_reducible refine (spec_l03OK.calls k _ _ l0 t252 _ ?side1 ?side2 A7.out).mono ?_); (case side1 => exact Xc HR0); (case side2 => exact HC0.out); rintro e w9 ⟨rfl, hb⟩; refine ⟨_, rfl, ?_⟩; replace BK251 := Xbb BK251 hb; replace HB := Aside0.mk (below_step Xi hb); clear hb))
  have H := HC8.out
  clear HC8
  by_cases c10 : t252 = true
  ·subst c10
   (first | rw [if_pos rfl] at H | skip)
   obtain ⟨t253, A11, H⟩ := Xbi H
   (try dsimp only at H)
   have HC12 := Aside0.mk H
   clear H
   obtain ⟨hcz13_0, hcz13_1, hcz13_2⟩ := Xc3 BK251
   go_upto_if 18 with (first | ((with_reducible refine gate_callee (f := 56) rfl ?_); refine Xgo 16 Try.func56 #[.agg #[.int .i64 a1_0, .int .i64 a1_1, .slice A1_2 l1_2.length c1_2], .int .i64 a2] ?_; (with_reducible refine (spec_l02Ask.calls k a1_0 a1_1 _ _ l1_2 a2 t253 _ ?side1 ?side2 A11.out).mono ?_); (case side1 => exact Xc HR1_2); (case side2 => exact HC1_2.out); rintro e w14 ⟨rfl, hb⟩; refine ⟨_, rfl, ?_⟩; replace BK251 := Xbb BK251 hb; replace HB := Aside0.mk (below_step Xi hb); clear hb))
   have H := HC12.out
   clear HC12
   obtain ⟨c15, H⟩ | ⟨c15, H⟩ := Xiu H
   ·have c15b0 : (t253 == 0) = true := beq_iff_eq.mpr c15
    have c15b1 : (t253 != 0) = false := bne_eq_false_iff_eq.mpr c15
    clear c15
    (first | rw [c15b0] | (simp only [i64_w, i32_w]; rw [c15b0]) | skip)
    obtain ⟨t254, A16, H⟩ := Xbi H
    (try dsimp only at H)
    obtain ⟨c17b0, H⟩ := Xid H
    obtain ⟨c18b0, H⟩ := Xid H
    obtain ⟨t256, A19, H⟩ := Xbi H
    (try dsimp only at H)
    obtain rfl := Option.some.inj H
    try go_wp2_with (fail)
    replace BK251 := Aside0.mk (blk_drew BK251.out)
    replace HB := Aside0.mk (below_drew1 HB.out)
    have p255 : 0 ≤ (t254 : Int) := of_decide_eq_true Xa
    have q255 : t254 < (l1_2.length : Int) := of_decide_eq_true Xa
    obtain ⟨ad255, A255_4, c255_4, e255, hx255_0, hx255_1, hx255_2, hx255_3, hx255_4, hl255_4, hi255_4⟩ := at_T43 HR1_2.out t254 p255 q255
    have hw255_4 := hx255_4
    have hw255_3 := hx255_3
    have hw255_2 := hx255_2
    have hw255_1 := hx255_1
    have hw255_0 := hx255_0
    cases e255
    replace hx255_0 := Xm HB hx255_0
    replace hx255_1 := Xm HB hx255_1
    replace hx255_2 := Xm HB hx255_2
    replace hx255_3 := Xm HB hx255_3
    replace hx255_4 := Xm HB hx255_4
    have HR255_4 := Aside0.mk hi255_4
    have HC255_4 := Aside0.mk hl255_4
    clear hi255_4 hl255_4
    replace p255 := eq_true p255
    replace q255 := eq_true q255
    refine start_ (n := 11) (S := fun w' => w'.cell? ⟨gb251, 0, none⟩ = some (.int .i64 a1_0) ∧ w'.cell? ⟨gb251, 1, none⟩ = some (.int .i64 a1_1) ∧ w'.cell? ⟨gb251, 2, none⟩ = some (.slice (some ad255) l1_2.length c1_2) ∧ w'.cell? (ad255.add ((t254).toNat * 5)) = some (.int .i64 ((rd_T43 l1_2 t254).f0)) ∧ w'.cell? ⟨(ad255.add ((t254).toNat * 5)).block, (ad255.add ((t254).toNat * 5)).off + 1, none⟩ = some (.int .i64 ((rd_T43 l1_2 t254).f1)) ∧ w'.cell? ⟨(ad255.add ((t254).toNat * 5)).block, (ad255.add ((t254).toNat * 5)).off + 2, none⟩ = some (.int .i64 ((rd_T43 l1_2 t254).f2)) ∧ w'.cell? ⟨(ad255.add ((t254).toNat * 5)).block, (ad255.add ((t254).toNat * 5)).off + 3, none⟩ = some (.string ((rd_T43 l1_2 t254).f3)) ∧ w'.cell? ⟨(ad255.add ((t254).toNat * 5)).block, (ad255.add ((t254).toNat * 5)).off + 4, none⟩ = some (.slice A255_4 ((rd_T43 l1_2 t254).f4).length c255_4)) (ds := []) #[false, false, false, false, false, false, false, false, false, false, false] (by kernel_rfl) rfl rfl ⟨(blk_cell BK251.out 0).trans rfl, (blk_cell BK251.out 1).trans rfl, (blk_cell BK251.out 2).trans rfl, Xn hw255_0, Xn hw255_1, Xn hw255_2, Xn hw255_3, Xn hw255_4⟩ (fun hHeld => ?_); refine with_tabW spec_CheckNode.tab8 spec_CheckNode.bits8 (fun HT_ HW_ => ?_)
    generalize w14.drew = w20 at BK251 HB HR255_4 hx255_0 hx255_1 hx255_2 hx255_3 hx255_4 hHeld ⊢
    refine Xpu 0 20 (XW.bs 11 1) HT_.out ?_
    refine Xpu 2 22 (XW.bs 11 5) HT_.out ?_
    refine Xpu 5 25 (XW.bs 11 37) HT_.out ?_
    refine Xta 1 21 (XW.bs 11 39) HT_.out HW_.out hHeld ?_
    refine Xta 3 23 (XW.bs 11 47) HT_.out HW_.out hHeld ?_
    refine Xta 4 24 (XW.bs 11 63) HT_.out HW_.out hHeld ?_
    refine one_ (i := 6) (N := some 26) (XW.bs 11 127) rfl rfl (one_of HT_.out (by kernel_rfl)) (by decide) (fun K hK => ?_)
    refine goes_ Try.func74 (by kernel_rfl) rfl #[.agg #[.int .i64 a1_0, .int .i64 a1_1, .slice (some ad255) l1_2.length c1_2], .int .i64 a2] (by rfl) rfl rfl (by (try simp only [List.map_toArray, List.map_cons, List.map_nil]); first | done | rfl | (simp only [List.length_drop, List.length_take]; rfl)) ?_
    with_reducible refine (spec_l02At.calls k a1_0 a1_1 _ _ l1_2 a2 t254 _ ?side1 ?side2 A16.out).mono ?_
    (case side1 => exact Xc HR1_2)
    (case side2 => exact HC1_2.out)
    rintro e w21 ⟨rfl, hb⟩
    refine ⟨_, rfl, ?_⟩
    replace BK251 := Xbb BK251 hb
    replace HB := Aside0.mk (below_step Xi hb)
    (try clear hb)
    (try clear hb2)
    (try clear hk)
    (try clear hi)
    refine hK.out _ _ ⟨(blk_cell BK251.out 0).trans rfl, (blk_cell BK251.out 1).trans rfl, (blk_cell BK251.out 2).trans rfl, Xn hw255_0, Xn hw255_1, Xn hw255_2, Xn hw255_3, Xn hw255_4⟩ (fun hHeld => ?_)
    clear hK K
    refine Xno ?_
    refine Xpu 7 27 (XW.bs 11 255) HT_.out ?_
    refine Xta 8 28 (XW.bs 11 511) HT_.out HW_.out hHeld ?_
    refine one_ (i := 9) (N := some 29) (XW.bs 11 1023) rfl rfl (one_of HT_.out (by kernel_rfl)) (by decide) (fun K hK => ?_)
    refine goes_ Try.func78 (by kernel_rfl) rfl #[.slice A0 l0.length c0, .agg #[.int .i64 a1_0, .int .i64 a1_1, .slice (some ad255) l1_2.length c1_2], .agg #[.int .i64 ((rd_T43 l1_2 t254).f0), .int .i64 ((rd_T43 l1_2 t254).f1), .int .i64 ((rd_T43 l1_2 t254).f2), .string ((rd_T43 l1_2 t254).f3), .slice A255_4 ((rd_T43 l1_2 t254).f4).length c255_4]] (by rfl) rfl rfl (by (try simp only [List.map_toArray, List.map_cons, List.map_nil]); first | done | rfl | (simp only [List.length_drop, List.length_take]; rfl)) ?_
    with_reducible refine (spec_l05Node.calls k _ _ l0 a1_0 a1_1 _ _ l1_2 ((rd_T43 l1_2 t254).f0) ((rd_T43 l1_2 t254).f1) ((rd_T43 l1_2 t254).f2) ((rd_T43 l1_2 t254).f3) _ _ ((rd_T43 l1_2 t254).f4) t256 _ ?side1 ?side2 ?side3 ?side4 ?side5 ?side6 A19.out).mono ?_
    (case side1 => exact Xc HR0)
    (case side2 => exact HC0.out)
    (case side3 => exact Xc HR1_2)
    (case side4 => exact HC1_2.out)
    (case side5 => exact Xc HR255_4)
    (case side6 => exact HC255_4.out)
    rintro e w22 ⟨rfl, hb⟩
    refine ⟨_, rfl, ?_⟩
    replace BK251 := Xbb BK251 hb
    replace HB := Aside0.mk (below_step Xi hb)
    (try clear hb)
    (try clear hb2)
    (try clear hk)
    (try clear hi)
    refine hK.out _ _ ⟨(blk_cell BK251.out 0).trans rfl, (blk_cell BK251.out 1).trans rfl, (blk_cell BK251.out 2).trans rfl, Xn hw255_0, Xn hw255_1, Xn hw255_2, Xn hw255_3, Xn hw255_4⟩ (fun hHeld => ?_)
    clear hK K
    refine Xno ?_
    refine Xpu 10 6 (XW.bs 11 2047) HT_.out ?_
    refine done_ (done_of HT_.out (by kernel_rfl)) ?_
    try go_wp2_with (fail)
    go_ret
    exact ⟨Xe, Xi⟩
   ·have c15b0 : (t253 == 0) = false := beq_eq_false_iff_ne.mpr c15
    have c15b1 : (t253 != 0) = true := bne_iff_ne.mpr c15
    (first | rw [c15b0] | (simp only [i64_w, i32_w]; rw [c15b0]) | skip)
    obtain rfl := Option.some.inj H
    go_wp2
    go_ret
    exact ⟨Xe, Xi⟩
  ·replace c10 := Bool.eq_false_iff.mpr c10
   subst c10
   (first | rw [if_neg (show ¬ (false = true) by decide)] at H | skip)
   obtain rfl := Option.some.inj H
   go_wp2
   go_ret
   exact ⟨Xe, Xi⟩

/-! ### laws_toTerm: function 134 -/
def laws_toTerm.f (k : Nat) (l0_0 : List Int) (a0_1 : Int) : Option (List Int × Int) := (laws_toIntS.f k l0_0).bind fun t260 => (some (t260, a0_1))
set_option maxHeartbeats 8000000 in
set_option maxRecDepth 100000 in
theorem laws_toTerm.calls (k : Nat) (A0_0 : Option Addr) (c0_0 : Nat) (l0_0 : List Int) (a0_1 : Int) (r1 : List Int) (r2 : Int) (w : World) (hr0_0 : Kd.C (Kd.int .i64) w A0_0 l0_0.length l0_0) (hc0_0 : l0_0.length ≤ c0_0) (h : laws_toTerm.f k l0_0 a0_1 = some (r1, r2)) :
  Calls Try.prog 134 #[.agg #[.slice A0_0 l0_0.length c0_0, .int .i64 a0_1]] w fun e w' => ∃ v0_ : Value, e = .returned (.agg #[v0_, .int .i64 r2]) ∧ Kd.R (Kd.int .i64) 3 w' w.heap.size (fun _ => True) v0_ r1 ∧ Below w.heap.size w w' := by
 have hu142 := Try.underlying142
 have hu135 := Try.underlying135
 have HR0_0 := Aside0.mk hr0_0
 have HC0_0 := Aside0.mk hc0_0
 clear hr0_0 hc0_0
 have HB := Aside0.mk (Below.refl w.heap.size w)
 have H : ((laws_toIntS.f k l0_0).bind fun t260 => (some (t260, a0_1))) = some (r1, r2) := h
 clear h
 obtain ⟨t260, A2, H⟩ := Xbi H
 (try dsimp only at H)
 simp only [Option.some.injEq, Prod.mk.injEq] at H
 obtain ⟨rfl, rfl⟩ := H
 go_enter Try.func134, Try.ntmps134
 go_wp2_with (first | ((with_reducible refine gate_dst (N := 1) rfl ?_); refine Xbox 1 #[.slice A0_0 l0_0.length c0_0, .int .i64 a0_1] 142 ?_; intro gb257 hg w3 hbox hb; have BK257 := Aside0.mk (hbox); have GE257 := Xge hg Xi; replace HB := Aside0.mk (below_step Xi hb); clear hb hbox hg) | ((with_reducible refine gate_dst (N := 2) rfl ?_); refine Xbox 2 #[.slice none 0 0, .int .i64 0] 135 ?_; intro gb258 hg w4 hbox hb; have BK258 := Aside0.mk (hbox); have GE258 := Xge hg Xi; replace HB := Aside0.mk (below_step Xi hb); have NB257_258 := Xnb hg BK257; have NB258_257 := Xns NB257_258; replace BK257 := Xbb BK257 hb; clear hb hbox hg) | ((with_reducible refine gate_dst (N := 3) rfl ?_); refine Xbox 3 #[.slice none 0 0, .int .i64 0] 135 ?_; intro gb259 hg w5 hbox hb; have BK259 := Aside0.mk (hbox); have GE259 := Xge hg Xi; replace HB := Aside0.mk (below_step Xi hb); have NB257_259 := Xnb hg BK257; have NB259_257 := Xns NB257_259; replace BK257 := Xbb BK257 hb; have NB258_259 := Xnb hg BK258; have NB259_258 := Xns NB258_259; replace BK258 := Xbb BK258 hb; clear hb hbox hg; have hnb6 := NB257_258.out; have hnc6 := NB258_257.out; have hnb7 := NB257_259.out; have hnc7 := NB259_257.out; obtain ⟨hcz8_0, hcz8_1⟩ := Xc2 BK257; obtain ⟨hfz8_0, hfz8_1⟩ := Xf2 BK257) | ((with_reducible refine gate_callee (f := 129) rfl ?_); refine Xgo 6 Try.func129 #[.slice A0_0 l0_0.length c0_0] ?_; (with_reducible refine (laws_toIntS.calls k _ _ l0_0 t260 _ ?side1 ?side2 A2.out).mono ?_); (case side1 => exact Xc HR0_0); (case side2 => exact HC0_0.out); rintro e w9 ⟨v261, rfl, ho0, hb⟩; refine ⟨_, rfl, ?_⟩; have HO262 := Aside0.mk (Kd.R_lower ho0 (below_size Xi)); replace BK257 := Xbb BK257 hb; replace BK258 := Xbb BK258 hb; replace BK259 := Xbb BK259 hb; replace HB := Aside0.mk (below_step Xi hb); clear hb; (try clear ho0); obtain ⟨Ao10, co10, eo10⟩ := Kd.R_slice HO262.out; subst eo10; have hnb11 := NB259_258.out; have hnc11 := NB258_259.out; obtain ⟨hcz12_0, hcz12_1⟩ := Xc2 BK259; obtain ⟨hfz12_0, hfz12_1⟩ := Xf2 BK259; obtain ⟨hcz13_0, hcz13_1⟩ := Xc2 BK257; obtain ⟨hfz13_0, hfz13_1⟩ := Xf2 BK257; obtain ⟨hcz14_0, hcz14_1⟩ := Xc2 BK258; obtain ⟨hfz14_0, hfz14_1⟩ := Xf2 BK258))
 refine bodyPost_ret (results_cell_row rfl _ _ gb258 135 #[.slice Ao10 t260.length co10, .int .i64 a0_1] (0, 0) _ rfl (by (with_reducible repeat (first | refine blk_drewN ?_ _ | refine blk_drew ?_ | refine blk_alloc ?_ _)); refine blk_put (cs := #[.slice Ao10 t260.length co10, .int .i64 0]) ?_ 1 _ rfl; (with_reducible repeat (first | refine blk_drewN ?_ _ | refine blk_drew ?_ | refine blk_alloc ?_ _)); refine blk_put (cs := #[.slice none 0 0, .int .i64 0]) ?_ 0 _ rfl; (with_reducible repeat (first | refine blk_drewN ?_ _ | refine blk_drew ?_ | refine blk_alloc ?_ _)); refine blk_far ?_ NB258_259.out _; (with_reducible repeat (first | refine blk_drewN ?_ _ | refine blk_drew ?_ | refine blk_alloc ?_ _)); refine blk_far ?_ NB258_259.out _; (with_reducible repeat (first | refine blk_drewN ?_ _ | refine blk_drew ?_ | refine blk_alloc ?_ _)); exact BK258.out) Try.underlying135 rfl (by kernel_rfl)) rfl ?_
 exact ⟨_, Xe, by (with_reducible repeat (first | apply Kd.R_alloc | apply Kd.R_drewN | apply Kd.R_drew)); exact Kd.R_mono (Kd.R_far (p := ⟨gb258, 1, none⟩) (Kd.R_far (p := ⟨gb258, 0, none⟩) (Kd.R_far (p := ⟨gb259, 1, none⟩) (Kd.R_far (p := ⟨gb259, 0, none⟩) (Kd.R_types (Kd.R_types HO262.out BK259.out (by decide)) BK258.out (by decide)) (fun _ hk => hk.1.2) (.slice Ao10 t260.length co10)) (fun _ hk => hk.1.2) (.int .i64 a0_1)) (fun _ hk => hk.2) (.slice Ao10 t260.length co10)) (fun _ hk => hk.2) (.int .i64 a0_1)) (fun _ hk => trivial), Xi⟩

end Go.Proofs.Ytpdhccdmbdbdpaa.XA
