/- Contracts of the program's functions: each Go function that is named below comes to what its Lean function says. Written by xprint.py (a program of this session's, over the kit's print). Conditions: each contract's own premises. -/
import Derived.Test.YtpdhccdmbdbdpaaYCheckNode0
import Derived.Test.YtpdhccdmbdbdpaaYCheckNode1
import Derived.Test.YtpdhccdmbdbdpaaYCheckNode14
import Derived.Test.YtpdhccdmbdbdpaaYCheckNode15
import Derived.Test.YtpdhccdmbdbdpaaYCheckNode17
import Derived.Test.YtpdhccdmbdbdpaaYCheckNodeFind
namespace Go.Proofs.Ytpdhccdmbdbdpaa.XA
open Go.RowKit Go.Proofs.YtpdhccdmbdbdpaaW.PrintWords Go.Proofs.YtpdhccdmbdbdpaaW.PrintLast Go.Proofs.YtpdhccdmbdbdpaaW.PrintMore XW
attribute [local go_sem] max2_int min2_int max_two min_two max_three min_three max_four min_four   -- for this text's walks alone
set_option linter.unusedVariables false
set_option linter.unusedSimpArgs false

/-! ### impl_check: function 82 -/
def impl_check.f (k : Nat) (l0 : List (S95)) (a1_0 : Int) (a1_1 : Int) (l1_2 : List (S43)) (a2 : Int) : Option (Int) := (impl_Doc_find.f k a1_0 a1_1 l1_2 a2).bind fun t390 => (if t390 < 0 then (none) else (if 0 ≤ t390 then (if t390 < (l1_2.length : Int) then (if ((rd_T43 l1_2 t390).f1) > (l0.length : Int) then (some 10) else (if 0 ≤ (wrap64 (((rd_T43 l1_2 t390).f1) - 1)) then (if (wrap64 (((rd_T43 l1_2 t390).f1) - 1)) < (l0.length : Int) then (if (rd_T95 l0 (wrap64 (((rd_T43 l1_2 t390).f1) - 1))).f1 = true then (if (((rd_T43 l1_2 t390).f4).length : Int) > 0 then (some 12) else (some 0)) else (if ((rd_T43 l1_2 t390).f3).toList = ([] : List UInt8) then ((impl_Doc_kindsOf.f k a1_0 a1_1 l1_2 a2).bind fun t397 => ((impl_matches.f k ((rd_T95 l0 (wrap64 (((rd_T43 l1_2 t390).f1) - 1))).f2) t397).bind fun t400 => (if t400 = true then (some 0) else (some 12)))) else (some 12))) else (none)) else (none))) else (none)) else (none)))
def impl_check.T7 : Bool × List (List Nat × List Nat) := (true, [([], []), ([0], [0]), ([1], [1]), ([2], [2]), ([3], [3]), ([4, 3], [3, 4]), ([3], [3]), ([3], [3]), ([6, 7, 3, 3], [3, 6, 7]), ([5, 8, 8, 3], [3, 5, 8]), ([9, 3], [3, 9]), ([3, 10], [3, 10]), ([11, 9], [11])])
def impl_check.B7 : List Nat := [0, 1, 3, 7, 15, 31, 15, 15, 207, 511, 1023, 2047, 4095]
theorem impl_check.tab7 : rtab .any (opsOf Try.f82 7) = impl_check.T7 := by kernel_rfl
theorem impl_check.bits7 : waitsOk impl_check.T7.2 impl_check.B7 = true := by kernel_rfl
set_option maxHeartbeats 8000000 in
set_option maxRecDepth 100000 in
theorem impl_check.calls (k : Nat) (A0 : Option Addr) (c0 : Nat) (l0 : List (S95)) (g1_ : Nat) (a1_0 : Int) (a1_1 : Int) (A1_2 : Option Addr) (c1_2 : Nat) (l1_2 : List (S43)) (a2 : Int) (r : Int) (w : World) (hr0 : Kd.C k95 w A0 l0.length l0) (hc0 : l0.length ≤ c0) (hg1_ : w.heap[g1_]? = some (.cells #[.int .i64 a1_0, .int .i64 a1_1, .slice A1_2 l1_2.length c1_2] 29 (0, 0))) (hr1_2 : Kd.C k43 w A1_2 l1_2.length l1_2) (hc1_2 : l1_2.length ≤ c1_2) (h : impl_check.f k l0 a1_0 a1_1 l1_2 a2 = some r) :
  Calls Try.prog 82 #[.slice A0 l0.length c0, .pointer (some ⟨g1_, 0, none⟩), .int .i64 a2] w fun e w' => e = .returned (.int .i64 r) ∧ Below w.heap.size w w' := by
 have hu95 := Try.underlying95
 have HR0 := Aside0.mk hr0
 have HC0 := Aside0.mk hc0
 clear hr0 hc0
 have HR1_2 := Aside0.mk hr1_2
 have HC1_2 := Aside0.mk hc1_2
 clear hr1_2 hc1_2
 have BK1 := Aside0.mk hg1_
 clear hg1_
 have HB := Aside0.mk (Below.refl w.heap.size w)
 have H : ((impl_Doc_find.f k a1_0 a1_1 l1_2 a2).bind fun t390 => (if t390 < 0 then (none) else (if 0 ≤ t390 then (if t390 < (l1_2.length : Int) then (if ((rd_T43 l1_2 t390).f1) > (l0.length : Int) then (some 10) else (if 0 ≤ (wrap64 (((rd_T43 l1_2 t390).f1) - 1)) then (if (wrap64 (((rd_T43 l1_2 t390).f1) - 1)) < (l0.length : Int) then (if (rd_T95 l0 (wrap64 (((rd_T43 l1_2 t390).f1) - 1))).f1 = true then (if (((rd_T43 l1_2 t390).f4).length : Int) > 0 then (some 12) else (some 0)) else (if ((rd_T43 l1_2 t390).f3).toList = ([] : List UInt8) then ((impl_Doc_kindsOf.f k a1_0 a1_1 l1_2 a2).bind fun t397 => ((impl_matches.f k ((rd_T95 l0 (wrap64 (((rd_T43 l1_2 t390).f1) - 1))).f2) t397).bind fun t400 => (if t400 = true then (some 0) else (some 12)))) else (some 12))) else (none)) else (none))) else (none)) else (none)))) = some r := h
 clear h
 obtain ⟨t390, A4, H⟩ := Xbi H
 (try dsimp only at H)
 obtain ⟨c5b0, H⟩ | ⟨c5b0, H⟩ := Xit H
 ·exact absurd H (by simp)
 ·obtain ⟨c6, H⟩ | ⟨c6, H⟩ := Xiu H
  ·have c6b0 : decide (0 ≤ t390) = true := decide_eq_true c6
   clear c6
   obtain ⟨c7b0, H⟩ := Xid H
   have HC8 := Aside0.mk H
   clear H
   go_enter Try.func82, Try.ntmps82
   go_upto_if 18 with (first | ((with_reducible refine gate_callee (f := 70) rfl ?_); refine Xgo 11 Try.func70 #[.pointer (some ⟨g1_, 0, none⟩), .int .i64 a2] ?_; (with_reducible refine (impl_Doc_find.calls k g1_ a1_0 a1_1 A1_2 c1_2 l1_2 a2 t390 _ ?side1 ?side2 ?side3 A4.out).mono ?_); (case side1 => exact BK1.out); (case side2 => repeat (first | exact HR1_2.out | (with_reducible first | refine Kd.C_alloc ?_ _ | refine Kd.C_drewN ?_ _ | refine Kd.C_drew ?_))); (case side3 => exact HC1_2.out); rintro e w9 ⟨pF, rfl, hpn, hps, hb⟩; refine ⟨_, rfl, ?_⟩; obtain ⟨adf10, hae, rfl⟩ := hps (Int.not_lt.mp (of_decide_eq_false Xa)); clear hpn; cases hae; replace BK1 := Xbb BK1 hb; replace HB := Aside0.mk (below_step Xi hb); clear hb; have p391 : 0 ≤ (t390 : Int) := of_decide_eq_true Xa; have q391 : t390 < (l1_2.length : Int) := of_decide_eq_true Xa; obtain ⟨ad391, A391_4, c391_4, e391, hx391_0, hx391_1, hx391_2, hx391_3, hx391_4, hl391_4, hi391_4⟩ := at_T43 HR1_2.out t390 p391 q391; obtain rfl : adf10 = ad391 := (by injection e391); replace hx391_0 := Xm HB hx391_0; replace hx391_1 := Xm HB hx391_1; replace hx391_2 := Xm HB hx391_2; replace hx391_3 := Xm HB hx391_3; replace hx391_4 := Xm HB hx391_4; have HR391_4 := Aside0.mk hi391_4; have HC391_4 := Aside0.mk hl391_4; clear hi391_4 hl391_4; replace p391 := eq_true p391; replace q391 := eq_true q391))
   have H := HC8.out
   clear HC8
   obtain ⟨c11, H⟩ | ⟨c11, H⟩ := Xiu H
   ·have c11b0 : decide ((l0.length : Int) < ((rd_T43 l1_2 t390).f1)) = true := decide_eq_true c11
    clear c11
    (first | rw [c11b0] | (simp only [i64_w, i32_w]; rw [c11b0]) | skip)
    obtain rfl := Option.some.inj H
    go_wp2
    go_ret
    exact ⟨Xe, Xi⟩
   ·have c11b0 : decide ((l0.length : Int) < ((rd_T43 l1_2 t390).f1)) = false := decide_eq_false c11
    clear c11
    (first | rw [c11b0] | (simp only [i64_w, i32_w]; rw [c11b0]) | skip)
    obtain ⟨ji12, hji12⟩ : ∃ j_ : Int, (wrap64 (((rd_T43 l1_2 t390).f1) - 1)) = j_ := ⟨_, rfl⟩
    replace H : (if 0 ≤ (ji12) then (if (ji12) < (l0.length : Int) then (if (rd_T95 l0 (ji12)).f1 = true then (if (((rd_T43 l1_2 t390).f4).length : Int) > 0 then (some 12) else (some 0)) else (if ((rd_T43 l1_2 t390).f3).toList = ([] : List UInt8) then ((impl_Doc_kindsOf.f k a1_0 a1_1 l1_2 a2).bind fun t397 => ((impl_matches.f k ((rd_T95 l0 (ji12)).f2) t397).bind fun t400 => (if t400 = true then (some 0) else (some 12)))) else (some 12))) else (none)) else (none)) = some r := by first | (rw [hji12] at H; exact H) | (simp only [hji12] at H ⊢; exact H)
    have hji12w : (IntKind.i64.wrap (((rd_T43 l1_2 t390).f1) - 1)) = ji12 := (i64_w _).trans hji12
    obtain ⟨c13b0, H⟩ := Xid H
    obtain ⟨c14b0, H⟩ := Xid H
    have HC15 := Aside0.mk H
    clear H
    obtain ⟨ad392, A392_4, c392_4, e392, p392, q392, hx392_0, hx392_1, hx392_2, hx392_3, hx392_4, HC392_4, HR392_4⟩ := at_B43 HR1_2 t390 Xa Xa HB
    obtain rfl : adf10 = ad392 := (by injection e392)
    obtain ⟨ad393, A393_2, c393_2, e393, p393, q393, hx393_0, hx393_1, hx393_2, HC393_2, HR393_2⟩ := at_B95 HR0 (ji12) Xa Xa HB
    cases e393
    go_upto_region 5 with (first | ((with_reducible refine gate_dst (N := 8) rfl ?_); (try (refine gate_guard (by rfl) ?_; dsimp only)); refine Xbox 8 #[.string (⟨#[]⟩ : ByteArray), .bool false, .slice none 0 0] 95 ?_; intro gb394 hg w16 hbox hb; have BK394 := Aside0.mk (hbox); have GE394 := Xge hg Xi; replace HB := Aside0.mk (below_step Xi hb); have NB1_394 := Xnb hg BK1; have NB394_1 := Xns NB1_394; replace BK1 := Xbb BK1 hb; clear hb hbox hg; have hnb17 := NB394_1.out; have hnc17 := NB1_394.out; obtain ⟨hcz18_0, hcz18_1, hcz18_2⟩ := Xc3 BK394; obtain ⟨hfz18_0, hfz18_1, hfz18_2⟩ := Xf3 BK394) | ((with_reducible refine gate_store (t := 95) (p := 8) rfl ?_); refine store_event (t := 95) (p := 8) (v := ?vo_w19) (w1 := (((w16.setCell ⟨gb394, 0, none⟩ (.string ((rd_T95 l0 (ji12)).f0))).setCell ⟨gb394, 1, none⟩ (.bool ((rd_T95 l0 (ji12)).f1))).setCell ⟨gb394, 2, none⟩ (.slice A393_2 ((rd_T95 l0 (ji12)).f2).length c393_2))) ?hg ?ho ?hn ?hr ?_; (case ho => rfl); (case hg => rfl); (case hn => rfl); (case hr => first | (go_simp; done) | (go_simp; rfl)); intro w19 hw; have n0_ : Aside0 (w19.heap[g1_]? = some (.cells #[.int .i64 a1_0, .int .i64 a1_1, .slice (some adf10) l1_2.length c1_2] 29 (0, 0))) := ⟨(by rw [hw]; exact (by (with_reducible repeat (first | refine blk_drewN ?_ _ | refine blk_drew ?_ | refine blk_alloc ?_ _)); refine blk_far ?_ NB1_394.out _; (with_reducible repeat (first | refine blk_drewN ?_ _ | refine blk_drew ?_ | refine blk_alloc ?_ _)); refine blk_far ?_ NB1_394.out _; (with_reducible repeat (first | refine blk_drewN ?_ _ | refine blk_drew ?_ | refine blk_alloc ?_ _)); refine blk_far ?_ NB1_394.out _; (with_reducible repeat (first | refine blk_drewN ?_ _ | refine blk_drew ?_ | refine blk_alloc ?_ _)); exact BK1.out))⟩; have n1_ : Aside0 (w19.heap[gb394]? = some (.cells #[.string ((rd_T95 l0 (ji12)).f0), .bool ((rd_T95 l0 (ji12)).f1), .slice A393_2 ((rd_T95 l0 (ji12)).f2).length c393_2] 95 (0, 0))) := ⟨(by rw [hw]; exact (by (with_reducible repeat (first | refine blk_drewN ?_ _ | refine blk_drew ?_ | refine blk_alloc ?_ _)); refine blk_put (cs := #[.string ((rd_T95 l0 (ji12)).f0), .bool ((rd_T95 l0 (ji12)).f1), .slice none 0 0]) ?_ 2 _ rfl; (with_reducible repeat (first | refine blk_drewN ?_ _ | refine blk_drew ?_ | refine blk_alloc ?_ _)); refine blk_put (cs := #[.string ((rd_T95 l0 (ji12)).f0), .bool false, .slice none 0 0]) ?_ 1 _ rfl; (with_reducible repeat (first | refine blk_drewN ?_ _ | refine blk_drew ?_ | refine blk_alloc ?_ _)); refine blk_put (cs := #[.string (⟨#[]⟩ : ByteArray), .bool false, .slice none 0 0]) ?_ 0 _ rfl; (with_reducible repeat (first | refine blk_drewN ?_ _ | refine blk_drew ?_ | refine blk_alloc ?_ _)); exact BK394.out))⟩; have n2_ : Aside0 (Below w.heap.size w w19) := ⟨(by rw [hw]; exact Xi)⟩; clear hw; clear BK1; clear BK394; clear HB; have BK1 := n0_; have BK394 := n1_; have HB := n2_; clear n0_ n1_ n2_))
    have H := HC15.out
    clear HC15
    obtain ⟨bq20, hbq20⟩ : ∃ b_ : Bool, b_ = ((rd_T95 l0 (ji12)).f1) := ⟨_, rfl⟩
    replace H : (if bq20 = true then (if (((rd_T43 l1_2 t390).f4).length : Int) > 0 then (some 12) else (some 0)) else (if ((rd_T43 l1_2 t390).f3).toList = ([] : List UInt8) then ((impl_Doc_kindsOf.f k a1_0 a1_1 l1_2 a2).bind fun t397 => ((impl_matches.f k ((rd_T95 l0 (ji12)).f2) t397).bind fun t400 => (if t400 = true then (some 0) else (some 12)))) else (some 12))) = some r := by rw [← hbq20] at H; exact H
    have Nbq20 := Aside0.mk hbq20
    clear hbq20
    (try rw [← Nbq20.out] at BK1)
    (try rw [← Nbq20.out] at BK394)
    by_cases c21 : bq20 = true
    ·subst c21
     (first | rw [if_pos rfl] at H | skip)
     obtain ⟨c22, H⟩ | ⟨c22, H⟩ := Xiu H
     ·have c22b0 : decide (0 < (((rd_T43 l1_2 t390).f4).length : Int)) = true := decide_eq_true c22
      have c22b1 : decide (0 < ((rd_T43 l1_2 t390).f4).length) = true := decide_eq_true (by omega)
      clear c22
      obtain rfl := Option.some.inj H
      have hnb23 := NB394_1.out
      have hnc23 := NB1_394.out
      obtain ⟨hcz24_0, hcz24_1, hcz24_2⟩ := Xc3 BK394
      obtain ⟨hfz24_0, hfz24_1, hfz24_2⟩ := Xf3 BK394
      obtain ⟨ad395, A395_4, c395_4, e395, p395, q395, hx395_0, hx395_1, hx395_2, hx395_3, hx395_4, HC395_4, HR395_4⟩ := at_B43 HR1_2 t390 Xa Xa HB
      obtain rfl : adf10 = ad395 := (by injection e395)
      go_wp2
      go_ret
      exact ⟨by first | rfl | (simp [errW_none, errW_some] <;> rfl) | (simp only [← hji12]; first | rfl | (simp [errW_none, errW_some] <;> rfl)) | (simp [*, errW_none, errW_some] <;> rfl), Xi⟩
     ·have c22b0 : decide (0 < (((rd_T43 l1_2 t390).f4).length : Int)) = false := decide_eq_false c22
      have c22b1 : decide (0 < ((rd_T43 l1_2 t390).f4).length) = false := decide_eq_false (by omega)
      clear c22
      obtain rfl := Option.some.inj H
      have hnb25 := NB394_1.out
      have hnc25 := NB1_394.out
      obtain ⟨hcz26_0, hcz26_1, hcz26_2⟩ := Xc3 BK394
      obtain ⟨hfz26_0, hfz26_1, hfz26_2⟩ := Xf3 BK394
      obtain ⟨ad395, A395_4, c395_4, e395, p395, q395, hx395_0, hx395_1, hx395_2, hx395_3, hx395_4, HC395_4, HR395_4⟩ := at_B43 HR1_2 t390 Xa Xa HB
      obtain rfl : adf10 = ad395 := (by injection e395)
      try go_wp2_with (fail)
      replace BK1 := Aside0.mk (blk_drew BK1.out)
      replace BK394 := Aside0.mk (blk_drew BK394.out)
      replace HB := Aside0.mk (below_drew1 HB.out)
      refine start_ (n := 13) (S := fun w' => w'.cell? ⟨gb394, 0, none⟩ = some (.string ((rd_T95 l0 (ji12)).f0)) ∧ w'.cell? ⟨gb394, 1, none⟩ = some (.bool true) ∧ w'.cell? ⟨gb394, 2, none⟩ = some (.slice A393_2 ((rd_T95 l0 (ji12)).f2).length c393_2)) (ds := []) #[false, false, false, false, false, false, false, false, false, false, false, false, false] (by kernel_rfl) rfl rfl ⟨(blk_cell BK394.out 0).trans rfl, (blk_cell BK394.out 1).trans rfl, (blk_cell BK394.out 2).trans rfl⟩ (fun hHeld => ?_); refine with_tabW impl_check.tab7 impl_check.bits7 (fun HT_ HW_ => ?_)
      generalize w19.drew = w27 at BK1 BK394 HB hHeld ⊢
      refine Xpu 0 48 (XW.bs 13 1) HT_.out ?_
      refine Xta 1 49 (XW.bs 13 3) HT_.out HW_.out hHeld ?_
      refine Xpu 2 50 (XW.bs 13 7) HT_.out ?_
      refine Xpu 3 51 (XW.bs 13 15) HT_.out ?_
      refine Xpn 4 52 (XW.bs 13 31) HT_.out ?_
      refine Xpn 5 53 (XW.bs 13 63) HT_.out ?_
      refine Xpn 6 54 (XW.bs 13 127) HT_.out ?_
      refine Xpn 7 55 (XW.bs 13 255) HT_.out ?_
      refine Xpn 8 56 (XW.bs 13 511) HT_.out ?_
      refine Xpn 9 57 (XW.bs 13 1023) HT_.out ?_
      refine Xpn 10 58 (XW.bs 13 2047) HT_.out ?_
      refine Xpu 11 59 (XW.bs 13 4095) HT_.out ?_
      refine Xpu 12 27 (XW.bs 13 8191) HT_.out ?_
      refine done_ (done_of HT_.out (by kernel_rfl)) ?_
      try go_wp2_with (fail)
      go_ret
      exact ⟨by first | rfl | (simp [errW_none, errW_some] <;> rfl) | (simp only [← hji12]; first | rfl | (simp [errW_none, errW_some] <;> rfl)) | (simp [*, errW_none, errW_some] <;> rfl), Xi⟩
    ·replace c21 := Bool.eq_false_iff.mpr c21
     subst c21
     (first | rw [if_neg (show ¬ (false = true) by decide)] at H | skip)
     obtain ⟨c28, H⟩ | ⟨c28, H⟩ := Xiu H
     ·have c28b0 : (((rd_T43 l1_2 t390).f3).toList == ([] : List UInt8)) = true := beq_iff_eq.mpr c28
      have c28b1 : (((rd_T43 l1_2 t390).f3).toList != ([] : List UInt8)) = false := bne_eq_false_iff_eq.mpr c28
      clear c28
      obtain ⟨t397, A29, H⟩ := Xbi H
      (try dsimp only at H)
      obtain ⟨t400, A30, H⟩ := Xbi H
      (try dsimp only at H)
      have HC31 := Aside0.mk H
      clear H
      have hnb32 := NB394_1.out
      have hnc32 := NB1_394.out
      obtain ⟨hcz33_0, hcz33_1, hcz33_2⟩ := Xc3 BK394
      obtain ⟨hfz33_0, hfz33_1, hfz33_2⟩ := Xf3 BK394
      obtain ⟨ad396, A396_4, c396_4, e396, p396, q396, hx396_0, hx396_1, hx396_2, hx396_3, hx396_4, HC396_4, HR396_4⟩ := at_B43 HR1_2 t390 Xa Xa HB
      obtain rfl : adf10 = ad396 := (by injection e396)
      try go_wp2_with (fail)
      replace BK1 := Aside0.mk (blk_drew BK1.out)
      replace BK394 := Aside0.mk (blk_drew BK394.out)
      replace HB := Aside0.mk (below_drew1 HB.out)
      refine start_ (n := 13) (S := fun w' => w'.cell? ⟨gb394, 0, none⟩ = some (.string ((rd_T95 l0 (ji12)).f0)) ∧ w'.cell? ⟨gb394, 1, none⟩ = some (.bool false) ∧ w'.cell? ⟨gb394, 2, none⟩ = some (.slice A393_2 ((rd_T95 l0 (ji12)).f2).length c393_2)) (ds := []) #[false, false, false, false, false, false, false, false, false, false, false, false, false] (by kernel_rfl) rfl rfl ⟨(blk_cell BK394.out 0).trans rfl, (blk_cell BK394.out 1).trans rfl, (blk_cell BK394.out 2).trans rfl⟩ (fun hHeld => ?_); refine with_tabW impl_check.tab7 impl_check.bits7 (fun HT_ HW_ => ?_)
      generalize w19.drew = w34 at BK1 BK394 HB hHeld ⊢
      refine Xpu 0 48 (XW.bs 13 1) HT_.out ?_
      refine Xta 1 49 (XW.bs 13 3) HT_.out HW_.out hHeld ?_
      refine Xpu 2 50 (XW.bs 13 7) HT_.out ?_
      refine Xpu 3 51 (XW.bs 13 15) HT_.out ?_
      refine Xpu 4 52 (XW.bs 13 31) HT_.out ?_
      refine Xpu 6 54 (XW.bs 13 95) HT_.out ?_
      refine Xpu 7 55 (XW.bs 13 223) HT_.out ?_
      refine Xta 5 53 (XW.bs 13 255) HT_.out HW_.out hHeld ?_
      refine one_ (i := 8) (N := some 56) (XW.bs 13 511) rfl rfl (one_of HT_.out (by kernel_rfl)) (by decide) (fun K hK => ?_)
      refine goes_ Try.func94 (by kernel_rfl) rfl #[.pointer (some ⟨g1_, 0, none⟩), .int .i64 a2] (by rfl) rfl rfl (by (try simp only [List.map_toArray, List.map_cons, List.map_nil]); first | done | rfl | (simp only [List.length_drop, List.length_take]; rfl)) ?_
      with_reducible refine (impl_Doc_kindsOf.calls k g1_ a1_0 a1_1 (some adf10) c1_2 l1_2 a2 t397 _ ?side1 ?side2 ?side3 A29.out).mono ?_
      (case side1 => exact BK1.out)
      (case side2 => exact Xc HR1_2)
      (case side3 => exact HC1_2.out)
      rintro e w35 ⟨v398, rfl, ho0, hb⟩
      refine ⟨_, rfl, ?_⟩
      have HO399 := Aside0.mk (Kd.R_lower ho0 (below_size Xi))
      replace BK1 := Xbb BK1 hb
      replace BK394 := Xbb BK394 hb
      replace HB := Aside0.mk (below_step Xi hb)
      (try clear hb)
      (try clear hb2)
      (try clear hk)
      (try clear hi)
      (try clear ho0)
      obtain ⟨Ao36, co36, eo36⟩ := Kd.R_slice HO399.out
      (first | subst eo36 | (injection eo36 with f1_ f2_ f3_; have f4_ := f1_.symm; have f5_ := f3_.symm; clear f1_ f2_ f3_; subst f4_; subst f5_))
      refine hK.out _ _ ⟨(blk_cell BK394.out 0).trans rfl, (blk_cell BK394.out 1).trans rfl, (blk_cell BK394.out 2).trans rfl⟩ (fun hHeld => ?_)
      clear hK K
      refine Xno ?_
      refine one_ (i := 9) (N := some 57) (XW.bs 13 1023) rfl rfl (one_of HT_.out (by kernel_rfl)) (by decide) (fun K hK => ?_)
      refine goes_ Try.func117 (by kernel_rfl) rfl #[.slice A393_2 ((rd_T95 l0 (ji12)).f2).length c393_2, .slice Ao36 t397.length co36] (by rfl) rfl rfl (by (try simp only [List.map_toArray, List.map_cons, List.map_nil]); first | done | (simp only [hji12]; rfl) | rfl | (simp only [List.length_drop, List.length_take]; rfl)) ?_
      with_reducible refine (impl_matches.calls k _ _ ((rd_T95 l0 (ji12)).f2) _ _ t397 t400 _ ?side1 ?side2 ?side3 ?side4 A30.out).mono ?_
      (case side1 => exact Xc HR393_2)
      (case side2 => exact HC393_2.out)
      (case side3 => repeat (first | exact (Kd.R_reads' HO399.out).2.2 | (with_reducible first | refine Kd.C_alloc ?_ _ | refine Kd.C_drewN ?_ _ | refine Kd.C_drew ?_)))
      (case side4 => exact (Kd.R_reads' HO399.out).2.1)
      rintro e w37 ⟨rfl, hb⟩
      refine ⟨_, rfl, ?_⟩
      replace HO399 := Aside0.mk (Kd.R_below (Xq HO399) hb)
      replace BK1 := Xbb BK1 hb
      replace BK394 := Xbb BK394 hb
      replace HB := Aside0.mk (below_step Xi hb)
      (try clear hb)
      (try clear hb2)
      (try clear hk)
      (try clear hi)
      refine hK.out _ _ ⟨(blk_cell BK394.out 0).trans rfl, (blk_cell BK394.out 1).trans rfl, (blk_cell BK394.out 2).trans rfl⟩ (fun hHeld => ?_)
      clear hK K
      refine Xno ?_
      refine Xpu 10 58 (XW.bs 13 2047) HT_.out ?_
      refine Xpu 11 59 (XW.bs 13 4095) HT_.out ?_
      refine Xpu 12 27 (XW.bs 13 8191) HT_.out ?_
      refine done_ (done_of HT_.out (by kernel_rfl)) ?_
      go_upto_if 27 with (fail)
      have H := HC31.out
      clear HC31
      by_cases c38 : t400 = true
      ·subst c38
       (first | rw [if_pos rfl] at H | skip)
       obtain rfl := Option.some.inj H
       go_wp2
       go_ret
       exact ⟨by first | rfl | (simp [errW_none, errW_some] <;> rfl) | (simp only [← hji12]; first | rfl | (simp [errW_none, errW_some] <;> rfl)) | (simp [*, errW_none, errW_some] <;> rfl), Xi⟩
      ·replace c38 := Bool.eq_false_iff.mpr c38
       subst c38
       (first | rw [if_neg (show ¬ (false = true) by decide)] at H | skip)
       obtain rfl := Option.some.inj H
       go_wp2
       go_ret
       exact ⟨by first | rfl | (simp [errW_none, errW_some] <;> rfl) | (simp only [← hji12]; first | rfl | (simp [errW_none, errW_some] <;> rfl)) | (simp [*, errW_none, errW_some] <;> rfl), Xi⟩
     ·have c28b0 : (((rd_T43 l1_2 t390).f3).toList == ([] : List UInt8)) = false := beq_eq_false_iff_ne.mpr c28
      have c28b1 : (((rd_T43 l1_2 t390).f3).toList != ([] : List UInt8)) = true := bne_iff_ne.mpr c28
      obtain rfl := Option.some.inj H
      have hnb39 := NB394_1.out
      have hnc39 := NB1_394.out
      obtain ⟨hcz40_0, hcz40_1, hcz40_2⟩ := Xc3 BK394
      obtain ⟨hfz40_0, hfz40_1, hfz40_2⟩ := Xf3 BK394
      obtain ⟨ad396, A396_4, c396_4, e396, p396, q396, hx396_0, hx396_1, hx396_2, hx396_3, hx396_4, HC396_4, HR396_4⟩ := at_B43 HR1_2 t390 Xa Xa HB
      obtain rfl : adf10 = ad396 := (by injection e396)
      go_wp2
      go_ret
      exact ⟨by first | rfl | (simp [errW_none, errW_some] <;> rfl) | (simp only [← hji12]; first | rfl | (simp [errW_none, errW_some] <;> rfl)) | (simp [*, errW_none, errW_some] <;> rfl), Xi⟩
  ·exact absurd H (by simp)

/-! ### impl_CheckNode: function 40 -/
def impl_CheckNode.f (k : Nat) (l0 : List (S95)) (a1_0 : Int) (a1_1 : Int) (l1_2 : List (S43)) (a2 : Int) : Option (Int) := (impl_isLongList_impl_Rule.f l0).bind fun t402 => (if t402 = true then (some 2) else ((impl_SchemaOK.f k l0).bind fun t403 => (if t403 = true then ((impl_nodeCode.f k a1_0 a1_1 l1_2 a2).bind fun t404 => (if t404 = 0 then ((impl_check.f k l0 a1_0 a1_1 l1_2 a2).bind fun t405 => (some t405)) else (some t404))) else (some 1))))
set_option maxHeartbeats 8000000 in
set_option maxRecDepth 100000 in
theorem impl_CheckNode.calls (k : Nat) (A0 : Option Addr) (c0 : Nat) (l0 : List (S95)) (a1_0 : Int) (a1_1 : Int) (A1_2 : Option Addr) (c1_2 : Nat) (l1_2 : List (S43)) (a2 : Int) (r : Int) (w : World) (hr0 : Kd.C k95 w A0 l0.length l0) (hc0 : l0.length ≤ c0) (hr1_2 : Kd.C k43 w A1_2 l1_2.length l1_2) (hc1_2 : l1_2.length ≤ c1_2) (h : impl_CheckNode.f k l0 a1_0 a1_1 l1_2 a2 = some r) :
  Calls Try.prog 40 #[.slice A0 l0.length c0, .agg #[.int .i64 a1_0, .int .i64 a1_1, .slice A1_2 l1_2.length c1_2], .int .i64 a2] w fun e w' => e = .returned (.int .i64 r) ∧ Below w.heap.size w w' := by
 have hu29 := Try.underlying29
 have HR0 := Aside0.mk hr0
 have HC0 := Aside0.mk hc0
 clear hr0 hc0
 have HR1_2 := Aside0.mk hr1_2
 have HC1_2 := Aside0.mk hc1_2
 clear hr1_2 hc1_2
 have HB := Aside0.mk (Below.refl w.heap.size w)
 have H : ((impl_isLongList_impl_Rule.f l0).bind fun t402 => (if t402 = true then (some 2) else ((impl_SchemaOK.f k l0).bind fun t403 => (if t403 = true then ((impl_nodeCode.f k a1_0 a1_1 l1_2 a2).bind fun t404 => (if t404 = 0 then ((impl_check.f k l0 a1_0 a1_1 l1_2 a2).bind fun t405 => (some t405)) else (some t404))) else (some 1))))) = some r := h
 clear h
 obtain ⟨t402, A4, H⟩ := Xbi H
 (try dsimp only at H)
 have HC5 := Aside0.mk H
 clear H
 go_enter Try.func40, Try.ntmps40
 go_upto_if 8 with (first | ((with_reducible refine gate_dst (N := 4) rfl ?_); refine Xbox 4 #[.int .i64 a1_0, .int .i64 a1_1, .slice A1_2 l1_2.length c1_2] 29 ?_; intro gb401 hg w6 hbox hb; have BK401 := Aside0.mk (hbox); have GE401 := Xge hg Xi; replace HB := Aside0.mk (below_step Xi hb); clear hb hbox hg) | ((with_reducible refine gate_callee (f := 80) rfl ?_); refine Xgo 10 Try.func80 #[.slice A0 l0.length c0] ?_; (with_reducible refine (impl_isLongList_impl_Rule.calls _ _ l0 t402 _ ?side1 ?side2 A4.out).mono ?_); (case side1 => exact Xc HR0); (case side2 => exact HC0.out); rintro e w' ⟨rfl, ⟨nd, rfl⟩⟩; refine ⟨_, rfl, ?_⟩))
 have H := HC5.out
 clear HC5
 by_cases c7 : t402 = true
 ·subst c7
  (first | rw [if_pos rfl] at H | skip)
  obtain rfl := Option.some.inj H
  go_wp2
  go_ret
  exact ⟨Xe, Xi⟩
 ·replace c7 := Bool.eq_false_iff.mpr c7
  subst c7
  (first | rw [if_neg (show ¬ (false = true) by decide)] at H | skip)
  obtain ⟨t403, A8, H⟩ := Xbi H
  (try dsimp only at H)
  have HC9 := Aside0.mk H
  clear H
  go_upto_if 11 with (first | ((with_reducible refine gate_callee (f := 81) rfl ?_); refine Xgo 13 Try.func81 #[.slice A0 l0.length c0] ?_; (with_reducible refine (impl_SchemaOK.calls k _ _ l0 t403 _ ?side1 ?side2 A8.out).mono ?_); (case side1 => exact Xc HR0); (case side2 => exact HC0.out); rintro e w10 ⟨rfl, hb⟩; refine ⟨_, rfl, ?_⟩; replace BK401 := Xbb BK401 hb; replace HB := Aside0.mk (below_step Xi hb); clear hb))
  have H := HC9.out
  clear HC9
  by_cases c11 : t403 = true
  ·subst c11
   (first | rw [if_pos rfl] at H | skip)
   obtain ⟨t404, A12, H⟩ := Xbi H
   (try dsimp only at H)
   have HC13 := Aside0.mk H
   clear H
   obtain ⟨hcz14_0, hcz14_1, hcz14_2⟩ := Xc3 BK401
   go_upto_if 19 with (first | ((with_reducible refine gate_callee (f := 58) rfl ?_); refine Xgo 17 Try.func58 #[.agg #[.int .i64 a1_0, .int .i64 a1_1, .slice A1_2 l1_2.length c1_2], .int .i64 a2] ?_; (with_reducible refine (impl_nodeCode.calls k a1_0 a1_1 _ _ l1_2 a2 t404 _ ?side1 ?side2 A12.out).mono ?_); (case side1 => exact Xc HR1_2); (case side2 => exact HC1_2.out); rintro e w15 ⟨rfl, hb⟩; refine ⟨_, rfl, ?_⟩; replace BK401 := Xbb BK401 hb; replace HB := Aside0.mk (below_step Xi hb); clear hb))
   have H := HC13.out
   clear HC13
   obtain ⟨c16, H⟩ | ⟨c16, H⟩ := Xiu H
   ·have c16b0 : (t404 == 0) = true := beq_iff_eq.mpr c16
    have c16b1 : (t404 != 0) = false := bne_eq_false_iff_eq.mpr c16
    clear c16
    (first | rw [c16b0] | (simp only [i64_w, i32_w]; rw [c16b0]) | skip)
    obtain ⟨t405, A17, H⟩ := Xbi H
    (try dsimp only at H)
    obtain rfl := Option.some.inj H
    go_wp2_with (first | ((with_reducible refine gate_callee (f := 82) rfl ?_); refine Xgo 23 Try.func82 #[.slice A0 l0.length c0, .pointer (some ⟨gb401, 0, none⟩), .int .i64 a2] ?_; (with_reducible refine (impl_check.calls k _ _ l0 gb401 a1_0 a1_1 A1_2 c1_2 l1_2 a2 t405 _ ?side1 ?side2 ?side3 ?side4 ?side5 A17.out).mono ?_); (case side1 => exact Xc HR0); (case side2 => exact HC0.out); (case side3 => exact BK401.out); (case side4 => exact Xc HR1_2); (case side5 => exact HC1_2.out); rintro e w18 ⟨rfl, hb⟩; refine ⟨_, rfl, ?_⟩; replace BK401 := Xbb BK401 hb; replace HB := Aside0.mk (below_step Xi hb); clear hb))
    go_ret
    exact ⟨Xe, Xi⟩
   ·have c16b0 : (t404 == 0) = false := beq_eq_false_iff_ne.mpr c16
    have c16b1 : (t404 != 0) = true := bne_iff_ne.mpr c16
    (first | rw [c16b0] | (simp only [i64_w, i32_w]; rw [c16b0]) | skip)
    obtain rfl := Option.some.inj H
    go_wp2
    go_ret
    exact ⟨Xe, Xi⟩
  ·replace c11 := Bool.eq_false_iff.mpr c11
   subst c11
   (first | rw [if_neg (show ¬ (false = true) by decide)] at H | skip)
   obtain rfl := Option.some.inj H
   go_wp2
   go_ret
   exact ⟨Xe, Xi⟩

/-! ### laws_eqTerm: function 139 -/
def laws_eqTerm.f (k : Nat) (l0_0 : List Int) (a0_1 : Int) (l1_0 : List Int) (a1_1 : Int) : Option (Bool) := (laws_eqIntS.f k l0_0 l1_0).bind fun t408 => (if t408 = true then (if a0_1 = a1_1 then (some true) else (some false)) else (some false))
set_option maxHeartbeats 8000000 in
set_option maxRecDepth 100000 in
theorem laws_eqTerm.calls (k : Nat) (A0_0 : Option Addr) (c0_0 : Nat) (l0_0 : List Int) (a0_1 : Int) (A1_0 : Option Addr) (c1_0 : Nat) (l1_0 : List Int) (a1_1 : Int) (r : Bool) (w : World) (hr0_0 : Kd.C (Kd.int .i64) w A0_0 l0_0.length l0_0) (hc0_0 : l0_0.length ≤ c0_0) (hr1_0 : Kd.C (Kd.int .i64) w A1_0 l1_0.length l1_0) (hc1_0 : l1_0.length ≤ c1_0) (h : laws_eqTerm.f k l0_0 a0_1 l1_0 a1_1 = some r) :
  Calls Try.prog 139 #[.agg #[.slice A0_0 l0_0.length c0_0, .int .i64 a0_1], .agg #[.slice A1_0 l1_0.length c1_0, .int .i64 a1_1]] w fun e w' => e = .returned (.bool r) ∧ Below w.heap.size w w' := by
 have hu135 := Try.underlying135
 have HR0_0 := Aside0.mk hr0_0
 have HC0_0 := Aside0.mk hc0_0
 clear hr0_0 hc0_0
 have HR1_0 := Aside0.mk hr1_0
 have HC1_0 := Aside0.mk hc1_0
 clear hr1_0 hc1_0
 have HB := Aside0.mk (Below.refl w.heap.size w)
 have H : ((laws_eqIntS.f k l0_0 l1_0).bind fun t408 => (if t408 = true then (if a0_1 = a1_1 then (some true) else (some false)) else (some false))) = some r := h
 clear h
 obtain ⟨t408, A3, H⟩ := Xbi H
 (try dsimp only at H)
 have HC4 := Aside0.mk H
 clear H
 go_enter Try.func139, Try.ntmps139
 go_upto_if 10 with (first | ((with_reducible refine gate_dst (N := 2) rfl ?_); refine Xbox 2 #[.slice A0_0 l0_0.length c0_0, .int .i64 a0_1] 135 ?_; intro gb406 hg w5 hbox hb; have BK406 := Aside0.mk (hbox); have GE406 := Xge hg Xi; replace HB := Aside0.mk (below_step Xi hb); clear hb hbox hg) | ((with_reducible refine gate_dst (N := 3) rfl ?_); refine Xbox 3 #[.slice A1_0 l1_0.length c1_0, .int .i64 a1_1] 135 ?_; intro gb407 hg w6 hbox hb; have BK407 := Aside0.mk (hbox); have GE407 := Xge hg Xi; replace HB := Aside0.mk (below_step Xi hb); have NB406_407 := Xnb hg BK406; have NB407_406 := Xns NB406_407; replace BK406 := Xbb BK406 hb; clear hb hbox hg; have hnb7 := NB406_407.out; have hnc7 := NB407_406.out; obtain ⟨hcz8_0, hcz8_1⟩ := Xc2 BK406; obtain ⟨hcz9_0, hcz9_1⟩ := Xc2 BK407) | ((with_reducible refine gate_callee (f := 28) rfl ?_); refine Xgo 9 Try.func28 #[.slice A0_0 l0_0.length c0_0, .slice A1_0 l1_0.length c1_0] ?_; (with_reducible refine (laws_eqIntS.calls k _ _ l0_0 _ _ l1_0 t408 _ ?side1 ?side2 ?side3 ?side4 A3.out).mono ?_); (case side1 => exact Xc HR0_0); (case side2 => exact HC0_0.out); (case side3 => exact Xc HR1_0); (case side4 => exact HC1_0.out); rintro e w' ⟨rfl, ⟨nd, rfl⟩⟩; refine ⟨_, rfl, ?_⟩))
 have H := HC4.out
 clear HC4
 by_cases c10 : t408 = true
 ·subst c10
  (first | rw [if_pos rfl] at H | skip)
  obtain ⟨c11, H⟩ | ⟨c11, H⟩ := Xiu H
  ·have c11b0 : (a0_1 == a1_1) = true := beq_iff_eq.mpr c11
   have c11b1 : (a0_1 != a1_1) = false := bne_eq_false_iff_eq.mpr c11
   clear c11
   (first | rw [c11b0] | (simp only [i64_w, i32_w]; rw [c11b0]) | skip)
   obtain rfl := Option.some.inj H
   have hnb12 := NB406_407.out
   have hnc12 := NB407_406.out
   obtain ⟨hcz13_0, hcz13_1⟩ := Xc2 BK406
   obtain ⟨hcz14_0, hcz14_1⟩ := Xc2 BK407
   go_wp2
   go_ret
   exact ⟨Xe, Xi⟩
  ·have c11b0 : (a0_1 == a1_1) = false := beq_eq_false_iff_ne.mpr c11
   have c11b1 : (a0_1 != a1_1) = true := bne_iff_ne.mpr c11
   (first | rw [c11b0] | (simp only [i64_w, i32_w]; rw [c11b0]) | skip)
   obtain rfl := Option.some.inj H
   have hnb15 := NB406_407.out
   have hnc15 := NB407_406.out
   obtain ⟨hcz16_0, hcz16_1⟩ := Xc2 BK406
   obtain ⟨hcz17_0, hcz17_1⟩ := Xc2 BK407
   go_wp2
   go_ret
   exact ⟨Xe, Xi⟩
 ·replace c10 := Bool.eq_false_iff.mpr c10
  subst c10
  (first | rw [if_neg (show ¬ (false = true) by decide)] at H | skip)
  obtain rfl := Option.some.inj H
  go_wp2
  go_ret
  exact ⟨Xe, Xi⟩

end Go.Proofs.Ytpdhccdmbdbdpaa.XA
