/- Contracts of the program's functions: each Go function that is named below comes to what its Lean function says. Written by xprint.py (a program of this session's, over the kit's print). Conditions: each contract's own premises. -/
import Derived.Test.YtnanfenogmpemaaYCoverOf0
import Derived.Test.YtnanfenogmpemaaYCoverOf9
import Derived.Test.YtnanfenogmpemaaYCoverOf10
import Derived.Test.YtnanfenogmpemaaYCoverOf13
namespace Go.Proofs.Ytnanfenogmpemaa.XA
open Go.RowKit Go.Proofs.YtnanfenogmpemaaW.PrintWords Go.Proofs.YtnanfenogmpemaaW.PrintLast Go.Proofs.YtnanfenogmpemaaW.PrintMore XW
attribute [local go_sem] max2_int min2_int max_two min_two max_three min_three max_four min_four   -- for this text's walks alone
set_option linter.unusedVariables false
set_option linter.unusedSimpArgs false

/-! ### impl_locksCode: function 48 -/
def impl_locksCode.f (k : Nat) (a0_0 : Int) (a0_1 : Int) (l0_2 : List (S92)) (l1 : List (S55)) (a2 : Int) (a3 : Int) : Option (Int) := (impl_isLongList_impl_Hold.f l1).bind fun t320 => (if t320 = true then (some 2) else ((impl_HoldsOK.f k a0_0 a0_1 l0_2 l1).bind fun t321 => (if t321 = true then ((impl_isSession.f a2).bind fun t322 => (if t322 = true then ((impl_Doc_has.f k a0_0 a0_1 l0_2 a3).bind fun t323 => (if t323 = true then (some 0) else (some 5))) else (some 4))) else (some 1))))
set_option maxHeartbeats 8000000 in
set_option maxRecDepth 100000 in
theorem impl_locksCode.calls (k : Nat) (a0_0 : Int) (a0_1 : Int) (A0_2 : Option Addr) (c0_2 : Nat) (l0_2 : List (S92)) (A1 : Option Addr) (c1 : Nat) (l1 : List (S55)) (a2 : Int) (a3 : Int) (r : Int) (w : World) (hr0_2 : Kd.C k92 w A0_2 l0_2.length l0_2) (hc0_2 : l0_2.length ≤ c0_2) (hr1 : Kd.C k55 w A1 l1.length l1) (hc1 : l1.length ≤ c1) (h : impl_locksCode.f k a0_0 a0_1 l0_2 l1 a2 a3 = some r) :
  Calls Try.prog 48 #[.agg #[.int .i64 a0_0, .int .i64 a0_1, .slice A0_2 l0_2.length c0_2], .slice A1 l1.length c1, .int .i64 a2, .int .i64 a3] w fun e w' => e = .returned (.int .i64 r) ∧ Below w.heap.size w w' := by
 have hu33 := Try.underlying33
 have HR0_2 := Aside0.mk hr0_2
 have HC0_2 := Aside0.mk hc0_2
 clear hr0_2 hc0_2
 have HR1 := Aside0.mk hr1
 have HC1 := Aside0.mk hc1
 clear hr1 hc1
 have HB := Aside0.mk (Below.refl w.heap.size w)
 have H : ((impl_isLongList_impl_Hold.f l1).bind fun t320 => (if t320 = true then (some 2) else ((impl_HoldsOK.f k a0_0 a0_1 l0_2 l1).bind fun t321 => (if t321 = true then ((impl_isSession.f a2).bind fun t322 => (if t322 = true then ((impl_Doc_has.f k a0_0 a0_1 l0_2 a3).bind fun t323 => (if t323 = true then (some 0) else (some 5))) else (some 4))) else (some 1))))) = some r := h
 clear h
 obtain ⟨t320, A5, H⟩ := Xbi H
 (try dsimp only at H)
 have HC6 := Aside0.mk H
 clear H
 go_enter Try.func48, Try.ntmps48
 go_upto_if 9 with (first | ((with_reducible refine gate_dst (N := 4) rfl ?_); refine Xbox 4 #[.int .i64 a0_0, .int .i64 a0_1, .slice A0_2 l0_2.length c0_2] 33 ?_; intro gb319 hg w7 hbox hb; have BK319 := Aside0.mk (hbox); have GE319 := Xge hg Xi; replace HB := Aside0.mk (below_step Xi hb); clear hb hbox hg) | ((with_reducible refine gate_callee (f := 63) rfl ?_); refine Xgo 11 Try.func63 #[.slice A1 l1.length c1] ?_; (with_reducible refine (impl_isLongList_impl_Hold.calls _ _ l1 t320 _ ?side1 ?side2 A5.out).mono ?_); (case side1 => exact Xc HR1); (case side2 => exact HC1.out); rintro e w' ⟨rfl, ⟨nd, rfl⟩⟩; refine ⟨_, rfl, ?_⟩))
 have H := HC6.out
 clear HC6
 by_cases c8 : t320 = true
 ·subst c8
  (first | rw [if_pos rfl] at H | skip)
  obtain rfl := Option.some.inj H
  go_wp2
  go_ret
  exact ⟨Xe, Xi⟩
 ·replace c8 := Bool.eq_false_iff.mpr c8
  subst c8
  (first | rw [if_neg (show ¬ (false = true) by decide)] at H | skip)
  obtain ⟨t321, A9, H⟩ := Xbi H
  (try dsimp only at H)
  have HC10 := Aside0.mk H
  clear H
  obtain ⟨hcz11_0, hcz11_1, hcz11_2⟩ := Xc3 BK319
  go_upto_if 12 with (first | ((with_reducible refine gate_callee (f := 42) rfl ?_); refine Xgo 15 Try.func42 #[.agg #[.int .i64 a0_0, .int .i64 a0_1, .slice A0_2 l0_2.length c0_2], .slice A1 l1.length c1] ?_; (with_reducible refine (impl_HoldsOK.calls k a0_0 a0_1 _ _ l0_2 _ _ l1 t321 _ ?side1 ?side2 ?side3 ?side4 A9.out).mono ?_); (case side1 => exact Xc HR0_2); (case side2 => exact HC0_2.out); (case side3 => exact Xc HR1); (case side4 => exact HC1.out); rintro e w12 ⟨rfl, hb⟩; refine ⟨_, rfl, ?_⟩; replace BK319 := Xbb BK319 hb; replace HB := Aside0.mk (below_step Xi hb); clear hb))
  have H := HC10.out
  clear HC10
  by_cases c13 : t321 = true
  ·subst c13
   (first | rw [if_pos rfl] at H | skip)
   obtain ⟨t322, A14, H⟩ := Xbi H
   (try dsimp only at H)
   have HC15 := Aside0.mk H
   clear H
   go_upto_if 17 with (first | ((with_reducible refine gate_callee (f := 79) rfl ?_); refine Xgo 19 Try.func79 #[.int .i64 a2] ?_; (with_reducible refine (impl_isSession.calls a2 t322 _ A14.out).mono ?_); rintro e w' ⟨rfl, ⟨nd, rfl⟩⟩; refine ⟨_, rfl, ?_⟩))
   have H := HC15.out
   clear HC15
   by_cases c16 : t322 = true
   ·subst c16
    (first | rw [if_pos rfl] at H | skip)
    obtain ⟨t323, A17, H⟩ := Xbi H
    (try dsimp only at H)
    have HC18 := Aside0.mk H
    clear H
    go_upto_if 21 with (first | ((with_reducible refine gate_callee (f := 80) rfl ?_); refine Xgo 23 Try.func80 #[.pointer (some ⟨gb319, 0, none⟩), .int .i64 a3] ?_; (with_reducible refine (impl_Doc_has.calls k gb319 a0_0 a0_1 A0_2 c0_2 l0_2 a3 t323 _ ?side1 ?side2 ?side3 A17.out).mono ?_); (case side1 => exact BK319.out); (case side2 => exact Xc HR0_2); (case side3 => exact HC0_2.out); rintro e w19 ⟨rfl, hb⟩; refine ⟨_, rfl, ?_⟩; replace BK319 := Xbb BK319 hb; replace HB := Aside0.mk (below_step Xi hb); clear hb))
    have H := HC18.out
    clear HC18
    by_cases c20 : t323 = true
    ·subst c20
     (first | rw [if_pos rfl] at H | skip)
     obtain rfl := Option.some.inj H
     go_wp2
     go_ret
     exact ⟨Xe, Xi⟩
    ·replace c20 := Bool.eq_false_iff.mpr c20
     subst c20
     (first | rw [if_neg (show ¬ (false = true) by decide)] at H | skip)
     obtain rfl := Option.some.inj H
     go_wp2
     go_ret
     exact ⟨Xe, Xi⟩
   ·replace c16 := Bool.eq_false_iff.mpr c16
    subst c16
    (first | rw [if_neg (show ¬ (false = true) by decide)] at H | skip)
    obtain rfl := Option.some.inj H
    go_wp2
    go_ret
    exact ⟨Xe, Xi⟩
  ·replace c13 := Bool.eq_false_iff.mpr c13
   subst c13
   (first | rw [if_neg (show ¬ (false = true) by decide)] at H | skip)
   obtain rfl := Option.some.inj H
   go_wp2
   go_ret
   exact ⟨Xe, Xi⟩

/-! ### impl_own: function 55 -/
def impl_own.l0 : Nat → Int → Int → List (S55) → Int → Int → Option (Int)
 | 0, _, _, _, _, _ => none
 | k + 1, x1, x2, x9, x10, x11 => if x11 < x10 then (if 0 ≤ x11 then (if x11 < (x9.length : Int) then (if ((rd_T55 x9 x11).f0) = x1 then (if ((rd_T55 x9 x11).f1) = x2 then (some ((rd_T55 x9 x11).f2)) else (impl_own.l0 k x1 x2 x9 x10 (wrap64 (x11 + 1)))) else (impl_own.l0 k x1 x2 x9 x10 (wrap64 (x11 + 1)))) else (none)) else (none)) else (some 0)
def impl_own.f (k : Nat) (l0 : List (S55)) (a1 : Int) (a2 : Int) : Option (Int) := impl_own.l0 k a1 a2 l0 (l0.length : Int) 0
set_option maxHeartbeats 8000000 in
set_option maxRecDepth 100000 in
theorem impl_own.calls (k : Nat) (A0 : Option Addr) (c0 : Nat) (l0 : List (S55)) (a1 : Int) (a2 : Int) (r : Int) (w : World) (hr0 : Kd.C k55 w A0 l0.length l0) (hc0 : l0.length ≤ c0) (h : impl_own.f k l0 a1 a2 = some r) :
  Calls Try.prog 55 #[.slice A0 l0.length c0, .int .i64 a1, .int .i64 a2] w fun e w' => e = .returned (.int .i64 r) ∧ Below w.heap.size w w' := by
 have hu55 := Try.underlying55
 have HR0 := Aside0.mk hr0
 have HC0 := Aside0.mk hc0
 clear hr0 hc0
 have HB := Aside0.mk (Below.refl w.heap.size w)
 have H : (impl_own.l0 k a1 a2 l0 (l0.length : Int) 0) = some r := h
 clear h
 have H' := Aside0.mk H
 clear H
 go_enter Try.func55, Try.ntmps55
 go_wp2
 go_loopg [11] k (fun kq v11 w' => ∃ (x11_1 : Int), v11 = .int .i64 x11_1 ∧ Aside0 (impl_own.l0 kq a1 a2 l0 (l0.length : Int) x11_1 = some r) ∧ Aside0 (kq ≤ k) ∧ Aside0 (Below w.heap.size w w'))
 case atStart => exact ⟨(0), Xr, H', Xkr, ⟨Xi⟩⟩
 case round =>
  clear H'
  obtain ⟨x11_1, rfl, HA, HK1, HB⟩ := hrel
  cases gk with
  | zero => cases HA.out
  | succ k1 =>
   have H := HA.out
   clear HA
   simp only [impl_own.l0] at H
   obtain ⟨c4b0, H⟩ | ⟨c4b0, H⟩ := Xit H
   ·obtain ⟨c5b0, H⟩ := Xid H
    obtain ⟨c6b0, H⟩ := Xid H
    have HC7 := Aside0.mk H
    clear H
    obtain ⟨ad324, e324, p324, q324, hx324_0, hx324_1, hx324_2⟩ := at_B55 HR0 x11_1 Xa Xa HB
    cases e324
    go_upto_region 4 with (first | ((with_reducible refine gate_dst (N := 8) rfl ?_); refine Xbox 8 #[.int .i64 0, .int .i64 0, .int .i64 0] 55 ?_; intro gb325 hg w8 hbox hb; have BK325 := Aside0.mk (hbox); have GE325 := Xge hg Xi; replace HB := Aside0.mk (below_step Xi hb); clear hb hbox hg; obtain ⟨hcz9_0, hcz9_1, hcz9_2⟩ := Xc3 BK325; obtain ⟨hfz9_0, hfz9_1, hfz9_2⟩ := Xf3 BK325) | ((with_reducible refine gate_store (t := 55) (p := 8) rfl ?_); refine store_event (t := 55) (p := 8) (v := ?vo_w10) (w1 := (((w8.setCell ⟨gb325, 0, none⟩ (.int .i64 ((rd_T55 l0 x11_1).f0))).setCell ⟨gb325, 1, none⟩ (.int .i64 ((rd_T55 l0 x11_1).f1))).setCell ⟨gb325, 2, none⟩ (.int .i64 ((rd_T55 l0 x11_1).f2)))) ?hg ?ho ?hn ?hr ?_; (case ho => rfl); (case hg => rfl); (case hn => rfl); (case hr => first | (go_simp; done) | (go_simp; rfl)); intro w10 hw; have n0_ : Aside0 (w10.heap[gb325]? = some (.cells #[.int .i64 ((rd_T55 l0 x11_1).f0), .int .i64 ((rd_T55 l0 x11_1).f1), .int .i64 ((rd_T55 l0 x11_1).f2)] 55 (0, 0))) := ⟨(by rw [hw]; exact (by (with_reducible repeat (first | refine blk_drewN ?_ _ | refine blk_drew ?_ | refine blk_alloc ?_ _)); refine blk_put (cs := #[.int .i64 ((rd_T55 l0 x11_1).f0), .int .i64 ((rd_T55 l0 x11_1).f1), .int .i64 0]) ?_ 2 _ rfl; (with_reducible repeat (first | refine blk_drewN ?_ _ | refine blk_drew ?_ | refine blk_alloc ?_ _)); refine blk_put (cs := #[.int .i64 ((rd_T55 l0 x11_1).f0), .int .i64 0, .int .i64 0]) ?_ 1 _ rfl; (with_reducible repeat (first | refine blk_drewN ?_ _ | refine blk_drew ?_ | refine blk_alloc ?_ _)); refine blk_put (cs := #[.int .i64 0, .int .i64 0, .int .i64 0]) ?_ 0 _ rfl; (with_reducible repeat (first | refine blk_drewN ?_ _ | refine blk_drew ?_ | refine blk_alloc ?_ _)); exact BK325.out))⟩; have n1_ : Aside0 (Below w.heap.size w w10) := ⟨(by rw [hw]; exact Xi)⟩; clear hw; clear BK325; clear HB; have BK325 := n0_; have HB := n1_; clear n0_ n1_))
    have H := HC7.out
    clear HC7
    obtain ⟨c11, H⟩ | ⟨c11, H⟩ := Xiu H
    ·have c11b0 : (((rd_T55 l0 x11_1).f0) == a1) = true := beq_iff_eq.mpr c11
     have c11b1 : (((rd_T55 l0 x11_1).f0) != a1) = false := bne_eq_false_iff_eq.mpr c11
     clear c11
     obtain ⟨c12, H⟩ | ⟨c12, H⟩ := Xiu H
     ·have c12b0 : (((rd_T55 l0 x11_1).f1) == a2) = true := beq_iff_eq.mpr c12
      have c12b1 : (((rd_T55 l0 x11_1).f1) != a2) = false := bne_eq_false_iff_eq.mpr c12
      clear c12
      obtain rfl := Option.some.inj H
      obtain ⟨hcz13_0, hcz13_1, hcz13_2⟩ := Xc3 BK325
      obtain ⟨hfz13_0, hfz13_1, hfz13_2⟩ := Xf3 BK325
      go_wp2
      go_ret
      exact ⟨Xe, Xi⟩
     ·have c12b0 : (((rd_T55 l0 x11_1).f1) == a2) = false := beq_eq_false_iff_ne.mpr c12
      have c12b1 : (((rd_T55 l0 x11_1).f1) != a2) = true := bne_iff_ne.mpr c12
      have H' := Aside0.mk H
      clear H
      obtain ⟨hcz14_0, hcz14_1, hcz14_2⟩ := Xc3 BK325
      obtain ⟨hfz14_0, hfz14_1, hfz14_2⟩ := Xf3 BK325
      go_wp2
      go_roundg k1
      case measure => have := HK1.out; omega
      case rel => exact ⟨(wrap64 (x11_1 + 1)), Xr, H', Xk1, ⟨Xi⟩⟩
    ·have c11b0 : (((rd_T55 l0 x11_1).f0) == a1) = false := beq_eq_false_iff_ne.mpr c11
     have c11b1 : (((rd_T55 l0 x11_1).f0) != a1) = true := bne_iff_ne.mpr c11
     have H' := Aside0.mk H
     clear H
     obtain ⟨hcz15_0, hcz15_1, hcz15_2⟩ := Xc3 BK325
     obtain ⟨hfz15_0, hfz15_1, hfz15_2⟩ := Xf3 BK325
     go_wp2
     go_roundg k1
     case measure => have := HK1.out; omega
     case rel => exact ⟨(wrap64 (x11_1 + 1)), Xr, H', Xk1, ⟨Xi⟩⟩
   ·obtain rfl := Option.some.inj H
    go_wp2
    go_ret
    exact ⟨Xe, Xi⟩

/-! ### slices_Index_int_int: function 156 -/
def slices_Index_int_int.l0 : Nat → List Int → Int → Int → Int → Option (Int)
 | 0, _, _, _, _ => none
 | k + 1, x0, x1, x7, x8 => if x8 < x7 then (if 0 ≤ x8 then (if x8 < (x0.length : Int) then (if x1 = (rd x0 x8) then (some x8) else (slices_Index_int_int.l0 k x0 x1 x7 (wrap64 (x8 + 1)))) else (none)) else (none)) else (some (-1))
def slices_Index_int_int.f (k : Nat) (l0 : List Int) (a1 : Int) : Option (Int) := slices_Index_int_int.l0 k l0 a1 (l0.length : Int) 0
set_option maxHeartbeats 8000000 in
set_option maxRecDepth 100000 in
theorem slices_Index_int_int.calls (k : Nat) (A0 : Option Addr) (c0 : Nat) (l0 : List Int) (a1 : Int) (r : Int) (w : World) (hr0 : Kd.C (Kd.int .i64) w A0 l0.length l0) (hc0 : l0.length ≤ c0) (h : slices_Index_int_int.f k l0 a1 = some r) :
  Calls Try.prog 156 #[.slice A0 l0.length c0, .int .i64 a1] w fun e w' => e = .returned (.int .i64 r) ∧ Drawn0 w w' := by
 have HR0 := Aside0.mk hr0
 have HC0 := Aside0.mk hc0
 clear hr0 hc0
 have H : (slices_Index_int_int.l0 k l0 a1 (l0.length : Int) 0) = some r := h
 clear h
 have H' := Aside0.mk H
 clear H
 go_enter Try.func156, Try.ntmps156
 go_wp2
 go_loopg [8] k (fun kq v8 w' => ∃ (x8_1 : Int), v8 = .int .i64 x8_1 ∧ Aside0 (slices_Index_int_int.l0 kq l0 a1 (l0.length : Int) x8_1 = some r) ∧ Aside0 (kq ≤ k) ∧ Drawn0 w w')
 case atStart => exact ⟨(0), Xr, H', Xkr, by repeat (first | exact Drawn0.refl _ | apply Drawn0.step)⟩
 case round =>
  clear H'
  obtain ⟨x8_1, rfl, HA, HK1, ⟨m1, rfl⟩⟩ := hrel
  cases gk with
  | zero => cases HA.out
  | succ k1 =>
   have H := HA.out
   clear HA
   simp only [slices_Index_int_int.l0] at H
   obtain ⟨c3b0, H⟩ | ⟨c3b0, H⟩ := Xit H
   ·obtain ⟨c4b0, H⟩ := Xid H
    obtain ⟨c5b0, H⟩ := Xid H
    obtain ⟨c6, H⟩ | ⟨c6, H⟩ := Xiu H
    ·have c6b0 : (a1 == (rd l0 x8_1)) = true := beq_iff_eq.mpr c6
     have c6b1 : (a1 != (rd l0 x8_1)) = false := bne_eq_false_iff_eq.mpr c6
     clear c6
     obtain rfl := Option.some.inj H
     have p326 : 0 ≤ (x8_1 : Int) := of_decide_eq_true Xa
     have q326 : x8_1 < (l0.length : Int) := of_decide_eq_true Xa
     obtain ⟨ad326, e326, hx326_0⟩ := Kd.at_int HR0.out x8_1 p326 q326
     cases e326
     replace p326 := eq_true p326
     replace q326 := eq_true q326
     go_wp2
     go_ret
     exact ⟨Xr, Xdr⟩
    ·have c6b0 : (a1 == (rd l0 x8_1)) = false := beq_eq_false_iff_ne.mpr c6
     have c6b1 : (a1 != (rd l0 x8_1)) = true := bne_iff_ne.mpr c6
     have H' := Aside0.mk H
     clear H
     have p326 : 0 ≤ (x8_1 : Int) := of_decide_eq_true Xa
     have q326 : x8_1 < (l0.length : Int) := of_decide_eq_true Xa
     obtain ⟨ad326, e326, hx326_0⟩ := Kd.at_int HR0.out x8_1 p326 q326
     cases e326
     replace p326 := eq_true p326
     replace q326 := eq_true q326
     go_wp2
     go_roundg k1
     case measure => have := HK1.out; omega
     case rel => exact ⟨(wrap64 (x8_1 + 1)), Xr, H', Xk1, by repeat (first | exact Drawn0.refl _ | apply Drawn0.step)⟩
   ·obtain rfl := Option.some.inj H
    go_wp2
    go_ret
    exact ⟨Xr, Xdr⟩

/-! ### slices_Contains_int_int: function 148 -/
def slices_Contains_int_int.f (k : Nat) (l0 : List Int) (a1 : Int) : Option (Bool) := (slices_Index_int_int.f k l0 a1).bind fun t327 => (some (decide (t327 ≥ 0)))
set_option maxHeartbeats 8000000 in
set_option maxRecDepth 100000 in
theorem slices_Contains_int_int.calls (k : Nat) (A0 : Option Addr) (c0 : Nat) (l0 : List Int) (a1 : Int) (r : Bool) (w : World) (hr0 : Kd.C (Kd.int .i64) w A0 l0.length l0) (hc0 : l0.length ≤ c0) (h : slices_Contains_int_int.f k l0 a1 = some r) :
  Calls Try.prog 148 #[.slice A0 l0.length c0, .int .i64 a1] w fun e w' => e = .returned (.bool r) ∧ Drawn0 w w' := by
 have HR0 := Aside0.mk hr0
 have HC0 := Aside0.mk hc0
 clear hr0 hc0
 have H : ((slices_Index_int_int.f k l0 a1).bind fun t327 => (some (decide (t327 ≥ 0)))) = some r := h
 clear h
 obtain ⟨t327, A3, H⟩ := Xbi H
 (try dsimp only at H)
 obtain rfl := Option.some.inj H
 go_enter Try.func148, Try.ntmps148
 go_wp2_with (first | ((with_reducible refine gate_callee (f := 156) rfl ?_); refine Xgo 7 Try.func156 #[.slice A0 l0.length c0, .int .i64 a1] ?_; (with_reducible refine (slices_Index_int_int.calls k _ _ l0 a1 t327 _ ?side1 ?side2 A3.out).mono ?_); (case side1 => repeat (first | exact HR0.out | (with_reducible first | refine Kd.C_alloc ?_ _ | refine Kd.C_drewN ?_ _ | refine Kd.C_drew ?_))); (case side2 => exact HC0.out); rintro e w' ⟨rfl, ⟨nd, rfl⟩⟩; refine ⟨_, rfl, ?_⟩))
 go_ret
 exact ⟨Xr, Xdr⟩

/-! ### impl_Doc_parent: function 127 -/
def impl_Doc_parent.l0 : Nat → Int → List (S92) → Int → Int → Option (Int)
 | 0, _, _, _, _ => none
 | k + 1, x1, x10, x11, x12 => if x12 < x11 then (if 0 ≤ x12 then (if x12 < (x10.length : Int) then ((slices_Contains_int_int.f k ((rd_T92 x10 x12).f4) x1).bind fun t330 => (if t330 = true then (some ((rd_T92 x10 x12).f0)) else (impl_Doc_parent.l0 k x1 x10 x11 (wrap64 (x12 + 1))))) else (none)) else (none)) else (some 0)
def impl_Doc_parent.f (k : Nat) (a0_0 : Int) (a0_1 : Int) (l0_2 : List (S92)) (a1 : Int) : Option (Int) := impl_Doc_parent.l0 k a1 l0_2 (l0_2.length : Int) 0
set_option maxHeartbeats 8000000 in
set_option maxRecDepth 100000 in
theorem impl_Doc_parent.calls (k : Nat) (g0_ : Nat) (a0_0 : Int) (a0_1 : Int) (A0_2 : Option Addr) (c0_2 : Nat) (l0_2 : List (S92)) (a1 : Int) (r : Int) (w : World) (hg0_ : w.heap[g0_]? = some (.cells #[.int .i64 a0_0, .int .i64 a0_1, .slice A0_2 l0_2.length c0_2] 33 (0, 0))) (hr0_2 : Kd.C k92 w A0_2 l0_2.length l0_2) (hc0_2 : l0_2.length ≤ c0_2) (h : impl_Doc_parent.f k a0_0 a0_1 l0_2 a1 = some r) :
  Calls Try.prog 127 #[.pointer (some ⟨g0_, 0, none⟩), .int .i64 a1] w fun e w' => e = .returned (.int .i64 r) ∧ Below w.heap.size w w' := by
 have hu92 := Try.underlying92
 have HR0_2 := Aside0.mk hr0_2
 have HC0_2 := Aside0.mk hc0_2
 clear hr0_2 hc0_2
 have BK0 := Aside0.mk hg0_
 clear hg0_
 have HB := Aside0.mk (Below.refl w.heap.size w)
 have H : (impl_Doc_parent.l0 k a1 l0_2 (l0_2.length : Int) 0) = some r := h
 clear h
 have H' := Aside0.mk H
 clear H
 obtain ⟨hcz3_0, hcz3_1, hcz3_2⟩ := Xc3 BK0
 obtain ⟨hfz3_0, hfz3_1, hfz3_2⟩ := Xf3 BK0
 go_enter Try.func127, Try.ntmps127
 go_wp2
 go_loopg [12] k (fun kq v12 w' => ∃ (x12_1 : Int), v12 = .int .i64 x12_1 ∧ Aside0 (impl_Doc_parent.l0 kq a1 l0_2 (l0_2.length : Int) x12_1 = some r) ∧ Aside0 (kq ≤ k) ∧ Aside0 (w'.heap[g0_]? = some (.cells #[.int .i64 a0_0, .int .i64 a0_1, (.slice A0_2 l0_2.length c0_2)] 33 (0, 0))) ∧ Aside0 (Below w.heap.size w w'))
 case atStart => exact ⟨(0), Xr, H', Xkr, BK0, ⟨Xi⟩⟩
 case round =>
  clear H'
  (try clear hcz3_0); (try clear hcz3_1); (try clear hcz3_2); (try clear hfz3_0); (try clear hfz3_1); (try clear hfz3_2)
  obtain ⟨x12_1, rfl, HA, HK1, BK0, HB⟩ := hrel
  cases gk with
  | zero => cases HA.out
  | succ k1 =>
   have H := HA.out
   clear HA
   simp only [impl_Doc_parent.l0] at H
   obtain ⟨c4b0, H⟩ | ⟨c4b0, H⟩ := Xit H
   ·obtain ⟨c5b0, H⟩ := Xid H
    obtain ⟨c6b0, H⟩ := Xid H
    obtain ⟨t330, A7, H⟩ := Xbi H
    (try dsimp only at H)
    have HC8 := Aside0.mk H
    clear H
    obtain ⟨ad328, A328_4, c328_4, e328, p328, q328, hx328_0, hx328_1, hx328_2, hx328_3, hx328_4, HC328_4, HR328_4⟩ := at_B92 HR0_2 x12_1 Xa Xa HB
    cases e328
    go_upto_if 19 with (first | ((with_reducible refine gate_dst (N := 6) rfl ?_); refine Xbox 6 #[.int .i64 0, .int .i64 0, .int .i64 0, .string (⟨#[]⟩ : ByteArray), .slice none 0 0] 92 ?_; intro gb329 hg w9 hbox hb; have BK329 := Aside0.mk (hbox); have GE329 := Xge hg Xi; replace HB := Aside0.mk (below_step Xi hb); have NB0_329 := Xnb hg BK0; have NB329_0 := Xns NB0_329; replace BK0 := Xbb BK0 hb; clear hb hbox hg; have hnb10 := NB329_0.out; have hnc10 := NB0_329.out; obtain ⟨hcz11_0, hcz11_1, hcz11_2, hcz11_3, hcz11_4⟩ := Xc5 BK329; obtain ⟨hfz11_0, hfz11_1, hfz11_2, hfz11_3, hfz11_4⟩ := Xf5 BK329) | ((with_reducible refine gate_store (t := 92) (p := 6) rfl ?_); refine store_event (t := 92) (p := 6) (v := ?vo_w12) (w1 := (((((w9.setCell ⟨gb329, 0, none⟩ (.int .i64 ((rd_T92 l0_2 x12_1).f0))).setCell ⟨gb329, 1, none⟩ (.int .i64 ((rd_T92 l0_2 x12_1).f1))).setCell ⟨gb329, 2, none⟩ (.int .i64 ((rd_T92 l0_2 x12_1).f2))).setCell ⟨gb329, 3, none⟩ (.string ((rd_T92 l0_2 x12_1).f3))).setCell ⟨gb329, 4, none⟩ (.slice A328_4 ((rd_T92 l0_2 x12_1).f4).length c328_4))) ?hg ?ho ?hn ?hr ?_; (case ho => rfl); (case hg => rfl); (case hn => rfl); (case hr => first | (go_simp; done) | (go_simp; rfl)); intro w12 hw; have n0_ : Aside0 (w12.heap[g0_]? = some (.cells #[.int .i64 a0_0, .int .i64 a0_1, .slice (some ad328) l0_2.length c0_2] 33 (0, 0))) := ⟨(by rw [hw]; exact (by (with_reducible repeat (first | refine blk_drewN ?_ _ | refine blk_drew ?_ | refine blk_alloc ?_ _)); refine blk_far ?_ NB0_329.out _; (with_reducible repeat (first | refine blk_drewN ?_ _ | refine blk_drew ?_ | refine blk_alloc ?_ _)); refine blk_far ?_ NB0_329.out _; (with_reducible repeat (first | refine blk_drewN ?_ _ | refine blk_drew ?_ | refine blk_alloc ?_ _)); refine blk_far ?_ NB0_329.out _; (with_reducible repeat (first | refine blk_drewN ?_ _ | refine blk_drew ?_ | refine blk_alloc ?_ _)); refine blk_far ?_ NB0_329.out _; (with_reducible repeat (first | refine blk_drewN ?_ _ | refine blk_drew ?_ | refine blk_alloc ?_ _)); refine blk_far ?_ NB0_329.out _; (with_reducible repeat (first | refine blk_drewN ?_ _ | refine blk_drew ?_ | refine blk_alloc ?_ _)); exact BK0.out))⟩; have n1_ : Aside0 (w12.heap[gb329]? = some (.cells #[.int .i64 ((rd_T92 l0_2 x12_1).f0), .int .i64 ((rd_T92 l0_2 x12_1).f1), .int .i64 ((rd_T92 l0_2 x12_1).f2), .string ((rd_T92 l0_2 x12_1).f3), .slice A328_4 ((rd_T92 l0_2 x12_1).f4).length c328_4] 92 (0, 0))) := ⟨(by rw [hw]; exact (by (with_reducible repeat (first | refine blk_drewN ?_ _ | refine blk_drew ?_ | refine blk_alloc ?_ _)); refine blk_put (cs := #[.int .i64 ((rd_T92 l0_2 x12_1).f0), .int .i64 ((rd_T92 l0_2 x12_1).f1), .int .i64 ((rd_T92 l0_2 x12_1).f2), .string ((rd_T92 l0_2 x12_1).f3), .slice none 0 0]) ?_ 4 _ rfl; (with_reducible repeat (first | refine blk_drewN ?_ _ | refine blk_drew ?_ | refine blk_alloc ?_ _)); refine blk_put (cs := #[.int .i64 ((rd_T92 l0_2 x12_1).f0), .int .i64 ((rd_T92 l0_2 x12_1).f1), .int .i64 ((rd_T92 l0_2 x12_1).f2), .string (⟨#[]⟩ : ByteArray), .slice none 0 0]) ?_ 3 _ rfl; (with_reducible repeat (first | refine blk_drewN ?_ _ | refine blk_drew ?_ | refine blk_alloc ?_ _)); refine blk_put (cs := #[.int .i64 ((rd_T92 l0_2 x12_1).f0), .int .i64 ((rd_T92 l0_2 x12_1).f1), .int .i64 0, .string (⟨#[]⟩ : ByteArray), .slice none 0 0]) ?_ 2 _ rfl; (with_reducible repeat (first | refine blk_drewN ?_ _ | refine blk_drew ?_ | refine blk_alloc ?_ _)); refine blk_put (cs := #[.int .i64 ((rd_T92 l0_2 x12_1).f0), .int .i64 0, .int .i64 0, .string (⟨#[]⟩ : ByteArray), .slice none 0 0]) ?_ 1 _ rfl; (with_reducible repeat (first | refine blk_drewN ?_ _ | refine blk_drew ?_ | refine blk_alloc ?_ _)); refine blk_put (cs := #[.int .i64 0, .int .i64 0, .int .i64 0, .string (⟨#[]⟩ : ByteArray), .slice none 0 0]) ?_ 0 _ rfl; (with_reducible repeat (first | refine blk_drewN ?_ _ | refine blk_drew ?_ | refine blk_alloc ?_ _)); exact BK329.out))⟩; have n2_ : Aside0 (Below w.heap.size w w12) := ⟨(by rw [hw]; exact Xi)⟩; clear hw; clear BK0; clear BK329; clear HB; have BK0 := n0_; have BK329 := n1_; have HB := n2_; clear n0_ n1_ n2_; obtain ⟨hcz13_0, hcz13_1, hcz13_2, hcz13_3, hcz13_4⟩ := Xc5 BK329; obtain ⟨hfz13_0, hfz13_1, hfz13_2, hfz13_3, hfz13_4⟩ := Xf5 BK329) | ((with_reducible refine gate_callee (f := 148) rfl ?_); refine Xgo 19 Try.func148 #[.slice A328_4 ((rd_T92 l0_2 x12_1).f4).length c328_4, .int .i64 a1] ?_; (with_reducible refine (slices_Contains_int_int.calls k1 _ _ ((rd_T92 l0_2 x12_1).f4) a1 t330 _ ?side1 ?side2 A7.out).mono ?_); (case side1 => exact Xc HR328_4); (case side2 => exact HC328_4.out); rintro e w' ⟨rfl, ⟨nd, rfl⟩⟩; refine ⟨_, rfl, ?_⟩))
    have H := HC8.out
    clear HC8
    by_cases c14 : t330 = true
    ·subst c14
     (first | rw [if_pos rfl] at H | skip)
     obtain rfl := Option.some.inj H
     have hnb15 := NB329_0.out
     have hnc15 := NB0_329.out
     obtain ⟨hcz16_0, hcz16_1, hcz16_2, hcz16_3, hcz16_4⟩ := Xc5 BK329
     obtain ⟨hfz16_0, hfz16_1, hfz16_2, hfz16_3, hfz16_4⟩ := Xf5 BK329
     go_wp2
     go_ret
     exact ⟨Xe, Xi⟩
    ·replace c14 := Bool.eq_false_iff.mpr c14
     subst c14
     (first | rw [if_neg (show ¬ (false = true) by decide)] at H | skip)
     have H' := Aside0.mk H
     clear H
     go_wp2
     go_roundg k1
     case measure => have := HK1.out; omega
     case rel => exact ⟨(wrap64 (x12_1 + 1)), Xr, H', Xk1, BK0, ⟨Xi⟩⟩
   ·obtain rfl := Option.some.inj H
    go_wp2
    go_ret
    exact ⟨Xe, Xi⟩

end Go.Proofs.Ytnanfenogmpemaa.XA
