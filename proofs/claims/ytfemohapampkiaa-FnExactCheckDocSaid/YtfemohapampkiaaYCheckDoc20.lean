/- Contracts of the program's functions: each Go function that is named below comes to what its Lean function says. Written by xprint.py (a program of this session's, over the kit's print). Conditions: each contract's own premises. -/
import Derived.Test.YtfemohapampkiaaYCheckDoc0
import Derived.Test.YtfemohapampkiaaYCheckDoc15
import Derived.Test.YtfemohapampkiaaYCheckDoc18
import Derived.Test.YtfemohapampkiaaYCheckDoc19
import Derived.Test.YtfemohapampkiaaYCheckDocFind
namespace Go.Proofs.Ytfemohapampkiaa.XA
open Go.RowKit Go.Proofs.YtfemohapampkiaaW.PrintWords Go.Proofs.YtfemohapampkiaaW.PrintLast Go.Proofs.YtfemohapampkiaaW.PrintMore XW
attribute [local go_sem] max2_int min2_int max_two min_two max_three min_three max_four min_four   -- for this text's walks alone
set_option linter.unusedVariables false
set_option linter.unusedSimpArgs false

/-! ### impl_check: function 163 -/
def impl_check.f (k : Nat) (l0 : List (S120)) (a1_0 : Int) (a1_1 : Int) (l1_2 : List (S88)) (a2 : Int) : Option (Int) := (impl_Doc_find.f k a1_0 a1_1 l1_2 a2).bind fun t417 => (if t417 < 0 then (none) else (if 0 ≤ t417 then (if t417 < (l1_2.length : Int) then (if ((rd_T88 l1_2 t417).f1) > (l0.length : Int) then (some 10) else (if 0 ≤ (wrap64 (((rd_T88 l1_2 t417).f1) - 1)) then (if (wrap64 (((rd_T88 l1_2 t417).f1) - 1)) < (l0.length : Int) then (if (rd_T120 l0 (wrap64 (((rd_T88 l1_2 t417).f1) - 1))).f1 = true then (if (((rd_T88 l1_2 t417).f4).length : Int) > 0 then (some 12) else (some 0)) else (if ((rd_T88 l1_2 t417).f3).toList = ([] : List UInt8) then ((impl_Doc_kindsOf.f k a1_0 a1_1 l1_2 a2).bind fun t424 => ((impl_matches.f k ((rd_T120 l0 (wrap64 (((rd_T88 l1_2 t417).f1) - 1))).f2) t424).bind fun t427 => (if t427 = true then (some 0) else (some 12)))) else (some 12))) else (none)) else (none))) else (none)) else (none)))
def impl_check.T7 : Bool × List (List Nat × List Nat) := (true, [([], []), ([0], [0]), ([1], [1]), ([2], [2]), ([3], [3]), ([4, 3], [3, 4]), ([3], [3]), ([3], [3]), ([6, 7, 3, 3], [3, 6, 7]), ([5, 8, 8, 3], [3, 5, 8]), ([9, 3], [3, 9]), ([3, 10], [3, 10]), ([11, 9], [11])])
def impl_check.B7 : List Nat := [0, 1, 3, 7, 15, 31, 15, 15, 207, 511, 1023, 2047, 4095]
theorem impl_check.tab7 : rtab .any (opsOf Try.f163 7) = impl_check.T7 := by kernel_rfl
theorem impl_check.bits7 : waitsOk impl_check.T7.2 impl_check.B7 = true := by kernel_rfl
set_option maxHeartbeats 8000000 in
set_option maxRecDepth 100000 in
theorem impl_check.calls (k : Nat) (A0 : Option Addr) (c0 : Nat) (l0 : List (S120)) (g1_ : Nat) (a1_0 : Int) (a1_1 : Int) (A1_2 : Option Addr) (c1_2 : Nat) (l1_2 : List (S88)) (a2 : Int) (r : Int) (w : World) (hr0 : Kd.C k120 w A0 l0.length l0) (hc0 : l0.length ≤ c0) (hg1_ : w.heap[g1_]? = some (.cells #[.int .i64 a1_0, .int .i64 a1_1, .slice A1_2 l1_2.length c1_2] 29 (0, 0))) (hr1_2 : Kd.C k88 w A1_2 l1_2.length l1_2) (hc1_2 : l1_2.length ≤ c1_2) (h : impl_check.f k l0 a1_0 a1_1 l1_2 a2 = some r) :
  Calls Try.prog 163 #[.slice A0 l0.length c0, .pointer (some ⟨g1_, 0, none⟩), .int .i64 a2] w fun e w' => e = .returned (.int .i64 r) ∧ Below w.heap.size w w' := by
 have hu120 := Try.underlying120
 have HR0 := Aside0.mk hr0
 have HC0 := Aside0.mk hc0
 clear hr0 hc0
 have HR1_2 := Aside0.mk hr1_2
 have HC1_2 := Aside0.mk hc1_2
 clear hr1_2 hc1_2
 have BK1 := Aside0.mk hg1_
 clear hg1_
 have HB := Aside0.mk (Below.refl w.heap.size w)
 have H : ((impl_Doc_find.f k a1_0 a1_1 l1_2 a2).bind fun t417 => (if t417 < 0 then (none) else (if 0 ≤ t417 then (if t417 < (l1_2.length : Int) then (if ((rd_T88 l1_2 t417).f1) > (l0.length : Int) then (some 10) else (if 0 ≤ (wrap64 (((rd_T88 l1_2 t417).f1) - 1)) then (if (wrap64 (((rd_T88 l1_2 t417).f1) - 1)) < (l0.length : Int) then (if (rd_T120 l0 (wrap64 (((rd_T88 l1_2 t417).f1) - 1))).f1 = true then (if (((rd_T88 l1_2 t417).f4).length : Int) > 0 then (some 12) else (some 0)) else (if ((rd_T88 l1_2 t417).f3).toList = ([] : List UInt8) then ((impl_Doc_kindsOf.f k a1_0 a1_1 l1_2 a2).bind fun t424 => ((impl_matches.f k ((rd_T120 l0 (wrap64 (((rd_T88 l1_2 t417).f1) - 1))).f2) t424).bind fun t427 => (if t427 = true then (some 0) else (some 12)))) else (some 12))) else (none)) else (none))) else (none)) else (none)))) = some r := h
 clear h
 obtain ⟨t417, A4, H⟩ := Xbi H
 (try dsimp only at H)
 obtain ⟨c5b0, H⟩ | ⟨c5b0, H⟩ := Xit H
 ·exact absurd H (by simp)
 ·obtain ⟨c6, H⟩ | ⟨c6, H⟩ := Xiu H
  ·have c6b0 : decide (0 ≤ t417) = true := decide_eq_true c6
   clear c6
   obtain ⟨c7b0, H⟩ := Xid H
   have HC8 := Aside0.mk H
   clear H
   go_enter Try.func163, Try.ntmps163
   go_upto_if 18 with (first | ((with_reducible refine gate_callee (f := 121) rfl ?_); refine Xgo 11 Try.func121 #[.pointer (some ⟨g1_, 0, none⟩), .int .i64 a2] ?_; (with_reducible refine (impl_Doc_find.calls k g1_ a1_0 a1_1 A1_2 c1_2 l1_2 a2 t417 _ ?side1 ?side2 ?side3 A4.out).mono ?_); (case side1 => exact BK1.out); (case side2 => repeat (first | exact HR1_2.out | (with_reducible first | refine Kd.C_alloc ?_ _ | refine Kd.C_drewN ?_ _ | refine Kd.C_drew ?_))); (case side3 => exact HC1_2.out); rintro e w9 ⟨pF, rfl, hpn, hps, hb⟩; refine ⟨_, rfl, ?_⟩; obtain ⟨adf10, hae, rfl⟩ := hps (Int.not_lt.mp (of_decide_eq_false Xa)); clear hpn; cases hae; replace BK1 := Xbb BK1 hb; replace HB := Aside0.mk (below_step Xi hb); clear hb; have p418 : 0 ≤ (t417 : Int) := of_decide_eq_true Xa; have q418 : t417 < (l1_2.length : Int) := of_decide_eq_true Xa; obtain ⟨ad418, A418_4, c418_4, e418, hx418_0, hx418_1, hx418_2, hx418_3, hx418_4, hl418_4, hi418_4⟩ := at_T88 HR1_2.out t417 p418 q418; obtain rfl : adf10 = ad418 := (by injection e418); replace hx418_0 := Xm HB hx418_0; replace hx418_1 := Xm HB hx418_1; replace hx418_2 := Xm HB hx418_2; replace hx418_3 := Xm HB hx418_3; replace hx418_4 := Xm HB hx418_4; have HR418_4 := Aside0.mk hi418_4; have HC418_4 := Aside0.mk hl418_4; clear hi418_4 hl418_4; replace p418 := eq_true p418; replace q418 := eq_true q418))
   have H := HC8.out
   clear HC8
   obtain ⟨c11, H⟩ | ⟨c11, H⟩ := Xiu H
   ·have c11b0 : decide ((l0.length : Int) < ((rd_T88 l1_2 t417).f1)) = true := decide_eq_true c11
    clear c11
    (first | rw [c11b0] | (simp only [i64_w, i32_w]; rw [c11b0]) | skip)
    obtain rfl := Option.some.inj H
    go_wp2
    go_ret
    exact ⟨Xe, Xi⟩
   ·have c11b0 : decide ((l0.length : Int) < ((rd_T88 l1_2 t417).f1)) = false := decide_eq_false c11
    clear c11
    (first | rw [c11b0] | (simp only [i64_w, i32_w]; rw [c11b0]) | skip)
    obtain ⟨ji12, hji12⟩ : ∃ j_ : Int, (wrap64 (((rd_T88 l1_2 t417).f1) - 1)) = j_ := ⟨_, rfl⟩
    replace H : (if 0 ≤ (ji12) then (if (ji12) < (l0.length : Int) then (if (rd_T120 l0 (ji12)).f1 = true then (if (((rd_T88 l1_2 t417).f4).length : Int) > 0 then (some 12) else (some 0)) else (if ((rd_T88 l1_2 t417).f3).toList = ([] : List UInt8) then ((impl_Doc_kindsOf.f k a1_0 a1_1 l1_2 a2).bind fun t424 => ((impl_matches.f k ((rd_T120 l0 (ji12)).f2) t424).bind fun t427 => (if t427 = true then (some 0) else (some 12)))) else (some 12))) else (none)) else (none)) = some r := by first | (rw [hji12] at H; exact H) | (simp only [hji12] at H ⊢; exact H)
    have hji12w : (IntKind.i64.wrap (((rd_T88 l1_2 t417).f1) - 1)) = ji12 := (i64_w _).trans hji12
    obtain ⟨c13b0, H⟩ := Xid H
    obtain ⟨c14b0, H⟩ := Xid H
    have HC15 := Aside0.mk H
    clear H
    obtain ⟨ad419, A419_4, c419_4, e419, p419, q419, hx419_0, hx419_1, hx419_2, hx419_3, hx419_4, HC419_4, HR419_4⟩ := at_B88 HR1_2 t417 Xa Xa HB
    obtain rfl : adf10 = ad419 := (by injection e419)
    obtain ⟨ad420, A420_2, c420_2, e420, p420, q420, hx420_0, hx420_1, hx420_2, HC420_2, HR420_2⟩ := at_B120 HR0 (ji12) Xa Xa HB
    cases e420
    go_upto_region 5 with (first | ((with_reducible refine gate_dst (N := 8) rfl ?_); (try (refine gate_guard (by rfl) ?_; dsimp only)); refine Xbox 8 #[.string (⟨#[]⟩ : ByteArray), .bool false, .slice none 0 0] 120 ?_; intro gb421 hg w16 hbox hb; have BK421 := Aside0.mk (hbox); have GE421 := Xge hg Xi; replace HB := Aside0.mk (below_step Xi hb); have NB1_421 := Xnb hg BK1; have NB421_1 := Xns NB1_421; replace BK1 := Xbb BK1 hb; clear hb hbox hg; have hnb17 := NB421_1.out; have hnc17 := NB1_421.out; obtain ⟨hcz18_0, hcz18_1, hcz18_2⟩ := Xc3 BK421; obtain ⟨hfz18_0, hfz18_1, hfz18_2⟩ := Xf3 BK421) | ((with_reducible refine gate_store (t := 120) (p := 8) rfl ?_); refine store_event (t := 120) (p := 8) (v := ?vo_w19) (w1 := (((w16.setCell ⟨gb421, 0, none⟩ (.string ((rd_T120 l0 (ji12)).f0))).setCell ⟨gb421, 1, none⟩ (.bool ((rd_T120 l0 (ji12)).f1))).setCell ⟨gb421, 2, none⟩ (.slice A420_2 ((rd_T120 l0 (ji12)).f2).length c420_2))) ?hg ?ho ?hn ?hr ?_; (case ho => rfl); (case hg => rfl); (case hn => rfl); (case hr => first | (go_simp; done) | (go_simp; rfl)); intro w19 hw; have n0_ : Aside0 (w19.heap[g1_]? = some (.cells #[.int .i64 a1_0, .int .i64 a1_1, .slice (some adf10) l1_2.length c1_2] 29 (0, 0))) := ⟨(by rw [hw]; exact (by (with_reducible repeat (first | refine blk_drewN ?_ _ | refine blk_drew ?_ | refine blk_alloc ?_ _)); refine blk_far ?_ NB1_421.out _; (with_reducible repeat (first | refine blk_drewN ?_ _ | refine blk_drew ?_ | refine blk_alloc ?_ _)); refine blk_far ?_ NB1_421.out _; (with_reducible repeat (first | refine blk_drewN ?_ _ | refine blk_drew ?_ | refine blk_alloc ?_ _)); refine blk_far ?_ NB1_421.out _; (with_reducible repeat (first | refine blk_drewN ?_ _ | refine blk_drew ?_ | refine blk_alloc ?_ _)); exact BK1.out))⟩; have n1_ : Aside0 (w19.heap[gb421]? = some (.cells #[.string ((rd_T120 l0 (ji12)).f0), .bool ((rd_T120 l0 (ji12)).f1), .slice A420_2 ((rd_T120 l0 (ji12)).f2).length c420_2] 120 (0, 0))) := ⟨(by rw [hw]; exact (by (with_reducible repeat (first | refine blk_drewN ?_ _ | refine blk_drew ?_ | refine blk_alloc ?_ _)); refine blk_put (cs := #[.string ((rd_T120 l0 (ji12)).f0), .bool ((rd_T120 l0 (ji12)).f1), .slice none 0 0]) ?_ 2 _ rfl; (with_reducible repeat (first | refine blk_drewN ?_ _ | refine blk_drew ?_ | refine blk_alloc ?_ _)); refine blk_put (cs := #[.string ((rd_T120 l0 (ji12)).f0), .bool false, .slice none 0 0]) ?_ 1 _ rfl; (with_reducible repeat (first | refine blk_drewN ?_ _ | refine blk_drew ?_ | refine blk_alloc ?_ _)); refine blk_put (cs := #[.string (⟨#[]⟩ : ByteArray), .bool false, .slice none 0 0]) ?_ 0 _ rfl; (with_reducible repeat (first | refine blk_drewN ?_ _ | refine blk_drew ?_ | refine blk_alloc ?_ _)); exact BK421.out))⟩; have n2_ : Aside0 (Below w.heap.size w w19) := ⟨(by rw [hw]; exact Xi)⟩; clear hw; clear BK1; clear BK421; clear HB; have BK1 := n0_; have BK421 := n1_; have HB := n2_; clear n0_ n1_ n2_))
    have H := HC15.out
    clear HC15
    obtain ⟨bq20, hbq20⟩ : ∃ b_ : Bool, b_ = ((rd_T120 l0 (ji12)).f1) := ⟨_, rfl⟩
    replace H : (if bq20 = true then (if (((rd_T88 l1_2 t417).f4).length : Int) > 0 then (some 12) else (some 0)) else (if ((rd_T88 l1_2 t417).f3).toList = ([] : List UInt8) then ((impl_Doc_kindsOf.f k a1_0 a1_1 l1_2 a2).bind fun t424 => ((impl_matches.f k ((rd_T120 l0 (ji12)).f2) t424).bind fun t427 => (if t427 = true then (some 0) else (some 12)))) else (some 12))) = some r := by rw [← hbq20] at H; exact H
    have Nbq20 := Aside0.mk hbq20
    clear hbq20
    (try rw [← Nbq20.out] at BK1)
    (try rw [← Nbq20.out] at BK421)
    by_cases c21 : bq20 = true
    ·subst c21
     (first | rw [if_pos rfl] at H | skip)
     obtain ⟨c22, H⟩ | ⟨c22, H⟩ := Xiu H
     ·have c22b0 : decide (0 < (((rd_T88 l1_2 t417).f4).length : Int)) = true := decide_eq_true c22
      have c22b1 : decide (0 < ((rd_T88 l1_2 t417).f4).length) = true := decide_eq_true (by omega)
      clear c22
      obtain rfl := Option.some.inj H
      have hnb23 := NB421_1.out
      have hnc23 := NB1_421.out
      obtain ⟨hcz24_0, hcz24_1, hcz24_2⟩ := Xc3 BK421
      obtain ⟨hfz24_0, hfz24_1, hfz24_2⟩ := Xf3 BK421
      obtain ⟨ad422, A422_4, c422_4, e422, p422, q422, hx422_0, hx422_1, hx422_2, hx422_3, hx422_4, HC422_4, HR422_4⟩ := at_B88 HR1_2 t417 Xa Xa HB
      obtain rfl : adf10 = ad422 := (by injection e422)
      go_wp2
      go_ret
      exact ⟨by first | rfl | (simp [errW_none, errW_some] <;> rfl) | (simp only [← hji12]; first | rfl | (simp [errW_none, errW_some] <;> rfl)) | (simp [*, errW_none, errW_some] <;> rfl), Xi⟩
     ·have c22b0 : decide (0 < (((rd_T88 l1_2 t417).f4).length : Int)) = false := decide_eq_false c22
      have c22b1 : decide (0 < ((rd_T88 l1_2 t417).f4).length) = false := decide_eq_false (by omega)
      clear c22
      obtain rfl := Option.some.inj H
      have hnb25 := NB421_1.out
      have hnc25 := NB1_421.out
      obtain ⟨hcz26_0, hcz26_1, hcz26_2⟩ := Xc3 BK421
      obtain ⟨hfz26_0, hfz26_1, hfz26_2⟩ := Xf3 BK421
      obtain ⟨ad422, A422_4, c422_4, e422, p422, q422, hx422_0, hx422_1, hx422_2, hx422_3, hx422_4, HC422_4, HR422_4⟩ := at_B88 HR1_2 t417 Xa Xa HB
      obtain rfl : adf10 = ad422 := (by injection e422)
      try go_wp2_with (fail)
      replace BK1 := Aside0.mk (blk_drew BK1.out)
      replace BK421 := Aside0.mk (blk_drew BK421.out)
      replace HB := Aside0.mk (below_drew1 HB.out)
      refine start_ (n := 13) (S := fun w' => w'.cell? ⟨gb421, 0, none⟩ = some (.string ((rd_T120 l0 (ji12)).f0)) ∧ w'.cell? ⟨gb421, 1, none⟩ = some (.bool true) ∧ w'.cell? ⟨gb421, 2, none⟩ = some (.slice A420_2 ((rd_T120 l0 (ji12)).f2).length c420_2)) (ds := []) #[false, false, false, false, false, false, false, false, false, false, false, false, false] (by kernel_rfl) rfl rfl ⟨(blk_cell BK421.out 0).trans rfl, (blk_cell BK421.out 1).trans rfl, (blk_cell BK421.out 2).trans rfl⟩ (fun hHeld => ?_); refine with_tabW impl_check.tab7 impl_check.bits7 (fun HT_ HW_ => ?_)
      generalize w19.drew = w27 at BK1 BK421 HB hHeld ⊢
      refine Xpu 0 48 (XW.bs 13 1) HT_.out ?_
      refine Xta 1 49 (XW.bs 13 3) HT_.out HW_.out hHeld ?_
      refine Xpu 2 50 (XW.bs 13 7) HT_.out ?_
      refine Xpu 3 51 (XW.bs 13 15) HT_.out ?_
      refine Xpn 4 52 (XW.bs 13 31) HT_.out ?_
      refine Xpn 5 53 (XW.bs 13 63) HT_.out ?_
      refine Xpn 6 54 (XW.bs 13 127) HT_.out ?_
      refine Xpn 7 55 (XW.bs 13 255) HT_.out ?_
      refine Xpn 8 56 (XW.bs 13 511) HT_.out ?_
      refine Xpn 9 57 (XW.bs 13 1023) HT_.out ?_
      refine Xpn 10 58 (XW.bs 13 2047) HT_.out ?_
      refine Xpu 11 59 (XW.bs 13 4095) HT_.out ?_
      refine Xpu 12 27 (XW.bs 13 8191) HT_.out ?_
      refine done_ (done_of HT_.out (by kernel_rfl)) ?_
      try go_wp2_with (fail)
      go_ret
      exact ⟨by first | rfl | (simp [errW_none, errW_some] <;> rfl) | (simp only [← hji12]; first | rfl | (simp [errW_none, errW_some] <;> rfl)) | (simp [*, errW_none, errW_some] <;> rfl), Xi⟩
    ·replace c21 := Bool.eq_false_iff.mpr c21
     subst c21
     (first | rw [if_neg (show ¬ (false = true) by decide)] at H | skip)
     obtain ⟨c28, H⟩ | ⟨c28, H⟩ := Xiu H
     ·have c28b0 : (((rd_T88 l1_2 t417).f3).toList == ([] : List UInt8)) = true := beq_iff_eq.mpr c28
      have c28b1 : (((rd_T88 l1_2 t417).f3).toList != ([] : List UInt8)) = false := bne_eq_false_iff_eq.mpr c28
      clear c28
      obtain ⟨t424, A29, H⟩ := Xbi H
      (try dsimp only at H)
      obtain ⟨t427, A30, H⟩ := Xbi H
      (try dsimp only at H)
      have HC31 := Aside0.mk H
      clear H
      have hnb32 := NB421_1.out
      have hnc32 := NB1_421.out
      obtain ⟨hcz33_0, hcz33_1, hcz33_2⟩ := Xc3 BK421
      obtain ⟨hfz33_0, hfz33_1, hfz33_2⟩ := Xf3 BK421
      obtain ⟨ad423, A423_4, c423_4, e423, p423, q423, hx423_0, hx423_1, hx423_2, hx423_3, hx423_4, HC423_4, HR423_4⟩ := at_B88 HR1_2 t417 Xa Xa HB
      obtain rfl : adf10 = ad423 := (by injection e423)
      try go_wp2_with (fail)
      replace BK1 := Aside0.mk (blk_drew BK1.out)
      replace BK421 := Aside0.mk (blk_drew BK421.out)
      replace HB := Aside0.mk (below_drew1 HB.out)
      refine start_ (n := 13) (S := fun w' => w'.cell? ⟨gb421, 0, none⟩ = some (.string ((rd_T120 l0 (ji12)).f0)) ∧ w'.cell? ⟨gb421, 1, none⟩ = some (.bool false) ∧ w'.cell? ⟨gb421, 2, none⟩ = some (.slice A420_2 ((rd_T120 l0 (ji12)).f2).length c420_2)) (ds := []) #[false, false, false, false, false, false, false, false, false, false, false, false, false] (by kernel_rfl) rfl rfl ⟨(blk_cell BK421.out 0).trans rfl, (blk_cell BK421.out 1).trans rfl, (blk_cell BK421.out 2).trans rfl⟩ (fun hHeld => ?_); refine with_tabW impl_check.tab7 impl_check.bits7 (fun HT_ HW_ => ?_)
      generalize w19.drew = w34 at BK1 BK421 HB hHeld ⊢
      refine Xpu 0 48 (XW.bs 13 1) HT_.out ?_
      refine Xta 1 49 (XW.bs 13 3) HT_.out HW_.out hHeld ?_
      refine Xpu 2 50 (XW.bs 13 7) HT_.out ?_
      refine Xpu 3 51 (XW.bs 13 15) HT_.out ?_
      refine Xpu 4 52 (XW.bs 13 31) HT_.out ?_
      refine Xpu 6 54 (XW.bs 13 95) HT_.out ?_
      refine Xpu 7 55 (XW.bs 13 223) HT_.out ?_
      refine Xta 5 53 (XW.bs 13 255) HT_.out HW_.out hHeld ?_
      refine one_ (i := 8) (N := some 56) (XW.bs 13 511) rfl rfl (one_of HT_.out (by kernel_rfl)) (by decide) (fun K hK => ?_)
      refine goes_ Try.func71 (by kernel_rfl) rfl #[.pointer (some ⟨g1_, 0, none⟩), .int .i64 a2] (by rfl) rfl rfl (by (try simp only [List.map_toArray, List.map_cons, List.map_nil]); first | done | rfl | (simp only [List.length_drop, List.length_take]; rfl)) ?_
      with_reducible refine (impl_Doc_kindsOf.calls k g1_ a1_0 a1_1 (some adf10) c1_2 l1_2 a2 t424 _ ?side1 ?side2 ?side3 A29.out).mono ?_
      (case side1 => exact BK1.out)
      (case side2 => exact Xc HR1_2)
      (case side3 => exact HC1_2.out)
      rintro e w35 ⟨v425, rfl, ho0, hb⟩
      refine ⟨_, rfl, ?_⟩
      have HO426 := Aside0.mk (Kd.R_lower ho0 (below_size Xi))
      replace BK1 := Xbb BK1 hb
      replace BK421 := Xbb BK421 hb
      replace HB := Aside0.mk (below_step Xi hb)
      (try clear hb)
      (try clear hb2)
      (try clear hk)
      (try clear hi)
      (try clear ho0)
      obtain ⟨Ao36, co36, eo36⟩ := Kd.R_slice HO426.out
      (first | subst eo36 | (injection eo36 with f1_ f2_ f3_; have f4_ := f1_.symm; have f5_ := f3_.symm; clear f1_ f2_ f3_; subst f4_; subst f5_))
      refine hK.out _ _ ⟨(blk_cell BK421.out 0).trans rfl, (blk_cell BK421.out 1).trans rfl, (blk_cell BK421.out 2).trans rfl⟩ (fun hHeld => ?_)
      clear hK K
      refine Xno ?_
      refine one_ (i := 9) (N := some 57) (XW.bs 13 1023) rfl rfl (one_of HT_.out (by kernel_rfl)) (by decide) (fun K hK => ?_)
      refine goes_ Try.func88 (by kernel_rfl) rfl #[.slice A420_2 ((rd_T120 l0 (ji12)).f2).length c420_2, .slice Ao36 t424.length co36] (by rfl) rfl rfl (by (try simp only [List.map_toArray, List.map_cons, List.map_nil]); first | done | (simp only [hji12]; rfl) | rfl | (simp only [List.length_drop, List.length_take]; rfl)) ?_
      with_reducible refine (impl_matches.calls k _ _ ((rd_T120 l0 (ji12)).f2) _ _ t424 t427 _ ?side1 ?side2 ?side3 ?side4 A30.out).mono ?_
      (case side1 => exact Xc HR420_2)
      (case side2 => exact HC420_2.out)
      (case side3 => repeat (first | exact (Kd.R_reads' HO426.out).2.2 | (with_reducible first | refine Kd.C_alloc ?_ _ | refine Kd.C_drewN ?_ _ | refine Kd.C_drew ?_)))
      (case side4 => exact (Kd.R_reads' HO426.out).2.1)
      rintro e w37 ⟨rfl, hb⟩
      refine ⟨_, rfl, ?_⟩
      replace HO426 := Aside0.mk (Kd.R_below (Xq HO426) hb)
      replace BK1 := Xbb BK1 hb
      replace BK421 := Xbb BK421 hb
      replace HB := Aside0.mk (below_step Xi hb)
      (try clear hb)
      (try clear hb2)
      (try clear hk)
      (try clear hi)
      refine hK.out _ _ ⟨(blk_cell BK421.out 0).trans rfl, (blk_cell BK421.out 1).trans rfl, (blk_cell BK421.out 2).trans rfl⟩ (fun hHeld => ?_)
      clear hK K
      refine Xno ?_
      refine Xpu 10 58 (XW.bs 13 2047) HT_.out ?_
      refine Xpu 11 59 (XW.bs 13 4095) HT_.out ?_
      refine Xpu 12 27 (XW.bs 13 8191) HT_.out ?_
      refine done_ (done_of HT_.out (by kernel_rfl)) ?_
      go_upto_if 27 with (fail)
      have H := HC31.out
      clear HC31
      by_cases c38 : t427 = true
      ·subst c38
       (first | rw [if_pos rfl] at H | skip)
       obtain rfl := Option.some.inj H
       go_wp2
       go_ret
       exact ⟨by first | rfl | (simp [errW_none, errW_some] <;> rfl) | (simp only [← hji12]; first | rfl | (simp [errW_none, errW_some] <;> rfl)) | (simp [*, errW_none, errW_some] <;> rfl), Xi⟩
      ·replace c38 := Bool.eq_false_iff.mpr c38
       subst c38
       (first | rw [if_neg (show ¬ (false = true) by decide)] at H | skip)
       obtain rfl := Option.some.inj H
       go_wp2
       go_ret
       exact ⟨by first | rfl | (simp [errW_none, errW_some] <;> rfl) | (simp only [← hji12]; first | rfl | (simp [errW_none, errW_some] <;> rfl)) | (simp [*, errW_none, errW_some] <;> rfl), Xi⟩
     ·have c28b0 : (((rd_T88 l1_2 t417).f3).toList == ([] : List UInt8)) = false := beq_eq_false_iff_ne.mpr c28
      have c28b1 : (((rd_T88 l1_2 t417).f3).toList != ([] : List UInt8)) = true := bne_iff_ne.mpr c28
      obtain rfl := Option.some.inj H
      have hnb39 := NB421_1.out
      have hnc39 := NB1_421.out
      obtain ⟨hcz40_0, hcz40_1, hcz40_2⟩ := Xc3 BK421
      obtain ⟨hfz40_0, hfz40_1, hfz40_2⟩ := Xf3 BK421
      obtain ⟨ad423, A423_4, c423_4, e423, p423, q423, hx423_0, hx423_1, hx423_2, hx423_3, hx423_4, HC423_4, HR423_4⟩ := at_B88 HR1_2 t417 Xa Xa HB
      obtain rfl : adf10 = ad423 := (by injection e423)
      go_wp2
      go_ret
      exact ⟨by first | rfl | (simp [errW_none, errW_some] <;> rfl) | (simp only [← hji12]; first | rfl | (simp [errW_none, errW_some] <;> rfl)) | (simp [*, errW_none, errW_some] <;> rfl), Xi⟩
  ·exact absurd H (by simp)

/-! ### impl_checkAll: function 114 -/
def impl_checkAll.l0 : Nat → List (S120) → List Int → Int → Int → Int → Int → List (S88) → Option (Int × Int)
 | 0, _, _, _, _, _, _, _ => none
 | k + 1, x0, x14, x15, x16, x2000, x2001, x2002 => if x16 < x15 then (if 0 ≤ x16 then (if x16 < (x14.length : Int) then ((impl_check.f k x0 x2000 x2001 x2002 (rd x14 x16)).bind fun t432 => (if t432 = 0 then (impl_checkAll.l0 k x0 x14 x15 (wrap64 (x16 + 1)) x2000 x2001 x2002) else (some (rd x14 x16, t432)))) else (none)) else (none)) else (some (0, 0))
def impl_checkAll.f (k : Nat) (l0 : List (S120)) (a1_0 : Int) (a1_1 : Int) (l1_2 : List (S88)) : Option (Int × Int) := (impl_Doc_order.f k a1_0 a1_1 l1_2 ([] : List Int) a1_0).bind fun t428 => (impl_checkAll.l0 k l0 t428 (t428.length : Int) 0 a1_0 a1_1 l1_2)
set_option maxHeartbeats 8000000 in
set_option maxRecDepth 100000 in
theorem impl_checkAll.calls (k : Nat) (A0 : Option Addr) (c0 : Nat) (l0 : List (S120)) (g1_ : Nat) (a1_0 : Int) (a1_1 : Int) (A1_2 : Option Addr) (c1_2 : Nat) (l1_2 : List (S88)) (r1 : Int) (r2 : Int) (w : World) (hr0 : Kd.C k120 w A0 l0.length l0) (hc0 : l0.length ≤ c0) (hg1_ : w.heap[g1_]? = some (.cells #[.int .i64 a1_0, .int .i64 a1_1, .slice A1_2 l1_2.length c1_2] 29 (0, 0))) (hr1_2 : Kd.C k88 w A1_2 l1_2.length l1_2) (hc1_2 : l1_2.length ≤ c1_2) (h : impl_checkAll.f k l0 a1_0 a1_1 l1_2 = some (r1, r2)) :
  Calls Try.prog 114 #[.slice A0 l0.length c0, .pointer (some ⟨g1_, 0, none⟩)] w fun e w' => e = .returned (.tuple #[.int .i64 r1, .int .i64 r2]) ∧ Below w.heap.size w w' := by
 have HR0 := Aside0.mk hr0
 have HC0 := Aside0.mk hc0
 clear hr0 hc0
 have HR1_2 := Aside0.mk hr1_2
 have HC1_2 := Aside0.mk hc1_2
 clear hr1_2 hc1_2
 have BK1 := Aside0.mk hg1_
 clear hg1_
 have HB := Aside0.mk (Below.refl w.heap.size w)
 have H : ((impl_Doc_order.f k a1_0 a1_1 l1_2 ([] : List Int) a1_0).bind fun t428 => (impl_checkAll.l0 k l0 t428 (t428.length : Int) 0 a1_0 a1_1 l1_2)) = some (r1, r2) := h
 clear h
 obtain ⟨t428, A3, H⟩ := Xbi H
 (try dsimp only at H)
 have H' := Aside0.mk H
 clear H
 obtain ⟨hcz4_0, hcz4_1, hcz4_2⟩ := Xc3 BK1
 go_enter Try.func114, Try.ntmps114
 go_wp2_with (first | ((with_reducible refine gate_callee (f := 63) rfl ?_); refine Xgo 14 Try.func63 #[.pointer (some ⟨g1_, 0, none⟩), .slice none 0 0, .int .i64 a1_0] ?_; (refine (impl_Doc_order.calls k g1_ a1_0 a1_1 A1_2 c1_2 l1_2 (fun k_ => some k_ = (.slice none 0 0 : Value).ownBlock) (.slice none 0 0) ([] : List Int) a1_0 t428 w _ ?side1 ?side2 ?side3 ?side4 ?side5 A3.out).mono ?_); (case side1 => exact Xi); (case side2 => exact BK1.out); (case side3 => exact Kd.C_kept_came k88_heap HR1_2.out Xi (fun k_ hs_ => (fun e_ => by simp [Value.ownBlock] at e_) hs_)); (case side4 => exact HC1_2.out); (case side5 => exact Kd.R_nil _ _ _ _ _); rintro e w5 ⟨v429, rfl, ho0, hb, hkp⟩; refine ⟨_, rfl, ?_⟩; replace BK1 := Aside0.mk (blk_kept BK1.out hkp (fun hs_ => (fun e_ => by simp [Value.ownBlock] at e_) hs_)); have HO430 := Aside0.mk (Kd.R_mono (ok' := fun k_ => True) ho0 (fun k_ hk_ => trivial)); replace HB := Aside0.mk (hb); (try clear hb); (try clear hkp); (try clear ho0); obtain ⟨Ao6, co6, eo6⟩ := Kd.R_slice HO430.out; subst eo6))
 go_loopg [16] k (fun kq v16 w' => ∃ (x16_1 : Int), v16 = .int .i64 x16_1 ∧ Aside0 (impl_checkAll.l0 kq l0 t428 (t428.length : Int) x16_1 a1_0 a1_1 l1_2 = some (r1, r2)) ∧ Aside0 (kq ≤ k) ∧ Aside0 (Kd.R (Kd.int .i64) 3 w' w.heap.size (fun _ => True) (.slice Ao6 t428.length co6) t428) ∧ Aside0 (w'.heap[g1_]? = some (.cells #[.int .i64 a1_0, .int .i64 a1_1, (.slice A1_2 l1_2.length c1_2)] 29 (0, 0))) ∧ Aside0 (Below w.heap.size w w'))
 case atStart => exact ⟨(0), Xr, H', Xkr, (Xp' HO430), BK1, ⟨Xi⟩⟩
 case round =>
  clear H'
  (try clear hcz4_0); (try clear hcz4_1); (try clear hcz4_2)
  obtain ⟨x16_1, rfl, HA, HK1, HO_14, BK1, HB⟩ := hrel
  cases gk with
  | zero => cases HA.out
  | succ k1 =>
   have H := HA.out
   clear HA
   simp only [impl_checkAll.l0] at H
   obtain ⟨c7b0, H⟩ | ⟨c7b0, H⟩ := Xit H
   ·obtain ⟨c8b0, H⟩ := Xid H
    obtain ⟨c9b0, H⟩ := Xid H
    obtain ⟨t432, A10, H⟩ := Xbi H
    (try dsimp only at H)
    have HC11 := Aside0.mk H
    clear H
    have p431 : 0 ≤ (x16_1 : Int) := of_decide_eq_true Xa
    have q431 : x16_1 < (t428.length : Int) := of_decide_eq_true Xa
    obtain ⟨ad431, e431, hx431_0⟩ := Kd.at_int (Kd.R_reads' HO_14.out).2.2 x16_1 p431 q431
    cases e431
    replace p431 := eq_true p431
    replace q431 := eq_true q431
    go_upto_if 25 with (first | ((with_reducible refine gate_callee (f := 163) rfl ?_); refine Xgo 23 Try.func163 #[.slice A0 l0.length c0, .pointer (some ⟨g1_, 0, none⟩), .int .i64 (rd t428 x16_1)] ?_; (with_reducible refine (impl_check.calls k1 _ _ l0 g1_ a1_0 a1_1 A1_2 c1_2 l1_2 (rd t428 x16_1) t432 _ ?side1 ?side2 ?side3 ?side4 ?side5 A10.out).mono ?_); (case side1 => exact Xc HR0); (case side2 => exact HC0.out); (case side3 => exact BK1.out); (case side4 => exact Xc HR1_2); (case side5 => exact HC1_2.out); rintro e w12 ⟨rfl, hb⟩; refine ⟨_, rfl, ?_⟩; replace HO_14 := Aside0.mk (Kd.R_below (Xq HO_14) hb); replace BK1 := Xbb BK1 hb; replace HB := Aside0.mk (below_step Xi hb); clear hb))
    have H := HC11.out
    clear HC11
    obtain ⟨c13, H⟩ | ⟨c13, H⟩ := Xiu H
    ·have c13b0 : (t432 == 0) = true := beq_iff_eq.mpr c13
     have c13b1 : (t432 != 0) = false := bne_eq_false_iff_eq.mpr c13
     clear c13
     (first | rw [c13b0] | (simp only [i64_w, i32_w]; rw [c13b0]) | skip)
     have H' := Aside0.mk H
     clear H
     go_wp2
     go_roundg k1
     case measure => have := HK1.out; omega
     case rel => exact ⟨(wrap64 (x16_1 + 1)), Xr, H', Xk1, (Xp' HO_14), BK1, ⟨Xi⟩⟩
    ·have c13b0 : (t432 == 0) = false := beq_eq_false_iff_ne.mpr c13
     have c13b1 : (t432 != 0) = true := bne_iff_ne.mpr c13
     (first | rw [c13b0] | (simp only [i64_w, i32_w]; rw [c13b0]) | skip)
     simp only [Option.some.injEq, Prod.mk.injEq] at H
     obtain ⟨rfl, rfl⟩ := H
     go_wp2
     go_ret2
     exact ⟨Xe, Xi⟩
   ·simp only [Option.some.injEq, Prod.mk.injEq] at H
    obtain ⟨rfl, rfl⟩ := H
    go_wp2
    go_ret2
    exact ⟨Xe, Xi⟩

end Go.Proofs.Ytfemohapampkiaa.XA
