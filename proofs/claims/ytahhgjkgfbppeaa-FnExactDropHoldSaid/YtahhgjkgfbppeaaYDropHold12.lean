/- Contracts of the program's functions: each Go function that is named below comes to what its Lean function says. Written by xprint.py (a program of this session's, over the kit's print). Conditions: each contract's own premises. -/
import Derived.Test.YtahhgjkgfbppeaaYDropHold0
import Derived.Test.YtahhgjkgfbppeaaYDropHold8
import Derived.Test.YtahhgjkgfbppeaaYDropHold10
import Derived.Test.YtahhgjkgfbppeaaYDropHold11
import Derived.Test.YtahhgjkgfbppeaaYDropHoldCloneHold
namespace Go.Proofs.Ytahhgjkgfbppeaa.XA
open Go.RowKit Go.Proofs.YtahhgjkgfbppeaaW.PrintWords Go.Proofs.YtahhgjkgfbppeaaW.PrintLast Go.Proofs.YtahhgjkgfbppeaaW.PrintMore XW
attribute [local go_sem] max2_int min2_int max_two min_two max_three min_three max_four min_four   -- for this text's walks alone
set_option linter.unusedVariables false
set_option linter.unusedSimpArgs false

/-! ### impl_locksCode: function 69 -/
def impl_locksCode.f (k : Nat) (a0_0 : Int) (a0_1 : Int) (l0_2 : List (S73)) (l1 : List (S44)) (a2 : Int) (a3 : Int) : Option (Int) := (impl_isLongList_impl_Hold.f l1).bind fun t313 => (if t313 = true then (some 2) else ((impl_HoldsOK.f k a0_0 a0_1 l0_2 l1).bind fun t314 => (if t314 = true then ((impl_isSession.f a2).bind fun t315 => (if t315 = true then ((impl_Doc_has.f k a0_0 a0_1 l0_2 a3).bind fun t316 => (if t316 = true then (some 0) else (some 5))) else (some 4))) else (some 1))))
set_option maxHeartbeats 8000000 in
set_option maxRecDepth 100000 in
theorem impl_locksCode.calls (k : Nat) (a0_0 : Int) (a0_1 : Int) (A0_2 : Option Addr) (c0_2 : Nat) (l0_2 : List (S73)) (A1 : Option Addr) (c1 : Nat) (l1 : List (S44)) (a2 : Int) (a3 : Int) (r : Int) (w : World) (hr0_2 : Kd.C k73 w A0_2 l0_2.length l0_2) (hc0_2 : l0_2.length ≤ c0_2) (hr1 : Kd.C k44 w A1 l1.length l1) (hc1 : l1.length ≤ c1) (h : impl_locksCode.f k a0_0 a0_1 l0_2 l1 a2 a3 = some r) :
  Calls Try.prog 69 #[.agg #[.int .i64 a0_0, .int .i64 a0_1, .slice A0_2 l0_2.length c0_2], .slice A1 l1.length c1, .int .i64 a2, .int .i64 a3] w fun e w' => e = .returned (.int .i64 r) ∧ Below w.heap.size w w' := by
 have hu33 := Try.underlying33
 have HR0_2 := Aside0.mk hr0_2
 have HC0_2 := Aside0.mk hc0_2
 clear hr0_2 hc0_2
 have HR1 := Aside0.mk hr1
 have HC1 := Aside0.mk hc1
 clear hr1 hc1
 have HB := Aside0.mk (Below.refl w.heap.size w)
 have H : ((impl_isLongList_impl_Hold.f l1).bind fun t313 => (if t313 = true then (some 2) else ((impl_HoldsOK.f k a0_0 a0_1 l0_2 l1).bind fun t314 => (if t314 = true then ((impl_isSession.f a2).bind fun t315 => (if t315 = true then ((impl_Doc_has.f k a0_0 a0_1 l0_2 a3).bind fun t316 => (if t316 = true then (some 0) else (some 5))) else (some 4))) else (some 1))))) = some r := h
 clear h
 obtain ⟨t313, A5, H⟩ := Xbi H
 (try dsimp only at H)
 have HC6 := Aside0.mk H
 clear H
 go_enter Try.func69, Try.ntmps69
 go_upto_if 9 with (first | ((with_reducible refine gate_dst (N := 4) rfl ?_); refine Xbox 4 #[.int .i64 a0_0, .int .i64 a0_1, .slice A0_2 l0_2.length c0_2] 33 ?_; intro gb312 hg w7 hbox hb; have BK312 := Aside0.mk (hbox); have GE312 := Xge hg Xi; replace HB := Aside0.mk (below_step Xi hb); clear hb hbox hg) | ((with_reducible refine gate_callee (f := 141) rfl ?_); refine Xgo 11 Try.func141 #[.slice A1 l1.length c1] ?_; (with_reducible refine (impl_isLongList_impl_Hold.calls _ _ l1 t313 _ ?side1 ?side2 A5.out).mono ?_); (case side1 => exact Xc HR1); (case side2 => exact HC1.out); rintro e w' ⟨rfl, ⟨nd, rfl⟩⟩; refine ⟨_, rfl, ?_⟩))
 have H := HC6.out
 clear HC6
 by_cases c8 : t313 = true
 ·subst c8
  (first | rw [if_pos rfl] at H | skip)
  obtain rfl := Option.some.inj H
  go_wp2
  go_ret
  exact ⟨Xe, Xi⟩
 ·replace c8 := Bool.eq_false_iff.mpr c8
  subst c8
  (first | rw [if_neg (show ¬ (false = true) by decide)] at H | skip)
  obtain ⟨t314, A9, H⟩ := Xbi H
  (try dsimp only at H)
  have HC10 := Aside0.mk H
  clear H
  obtain ⟨hcz11_0, hcz11_1, hcz11_2⟩ := Xc3 BK312
  go_upto_if 12 with (first | ((with_reducible refine gate_callee (f := 142) rfl ?_); refine Xgo 15 Try.func142 #[.agg #[.int .i64 a0_0, .int .i64 a0_1, .slice A0_2 l0_2.length c0_2], .slice A1 l1.length c1] ?_; (with_reducible refine (impl_HoldsOK.calls k a0_0 a0_1 _ _ l0_2 _ _ l1 t314 _ ?side1 ?side2 ?side3 ?side4 A9.out).mono ?_); (case side1 => exact Xc HR0_2); (case side2 => exact HC0_2.out); (case side3 => exact Xc HR1); (case side4 => exact HC1.out); rintro e w12 ⟨rfl, hb⟩; refine ⟨_, rfl, ?_⟩; replace BK312 := Xbb BK312 hb; replace HB := Aside0.mk (below_step Xi hb); clear hb))
  have H := HC10.out
  clear HC10
  by_cases c13 : t314 = true
  ·subst c13
   (first | rw [if_pos rfl] at H | skip)
   obtain ⟨t315, A14, H⟩ := Xbi H
   (try dsimp only at H)
   have HC15 := Aside0.mk H
   clear H
   go_upto_if 17 with (first | ((with_reducible refine gate_callee (f := 143) rfl ?_); refine Xgo 19 Try.func143 #[.int .i64 a2] ?_; (with_reducible refine (impl_isSession.calls a2 t315 _ A14.out).mono ?_); rintro e w' ⟨rfl, ⟨nd, rfl⟩⟩; refine ⟨_, rfl, ?_⟩))
   have H := HC15.out
   clear HC15
   by_cases c16 : t315 = true
   ·subst c16
    (first | rw [if_pos rfl] at H | skip)
    obtain ⟨t316, A17, H⟩ := Xbi H
    (try dsimp only at H)
    have HC18 := Aside0.mk H
    clear H
    go_upto_if 21 with (first | ((with_reducible refine gate_callee (f := 110) rfl ?_); refine Xgo 23 Try.func110 #[.pointer (some ⟨gb312, 0, none⟩), .int .i64 a3] ?_; (with_reducible refine (impl_Doc_has.calls k gb312 a0_0 a0_1 A0_2 c0_2 l0_2 a3 t316 _ ?side1 ?side2 ?side3 A17.out).mono ?_); (case side1 => exact BK312.out); (case side2 => exact Xc HR0_2); (case side3 => exact HC0_2.out); rintro e w19 ⟨rfl, hb⟩; refine ⟨_, rfl, ?_⟩; replace BK312 := Xbb BK312 hb; replace HB := Aside0.mk (below_step Xi hb); clear hb))
    have H := HC18.out
    clear HC18
    by_cases c20 : t316 = true
    ·subst c20
     (first | rw [if_pos rfl] at H | skip)
     obtain rfl := Option.some.inj H
     go_wp2
     go_ret
     exact ⟨Xe, Xi⟩
    ·replace c20 := Bool.eq_false_iff.mpr c20
     subst c20
     (first | rw [if_neg (show ¬ (false = true) by decide)] at H | skip)
     obtain rfl := Option.some.inj H
     go_wp2
     go_ret
     exact ⟨Xe, Xi⟩
   ·replace c16 := Bool.eq_false_iff.mpr c16
    subst c16
    (first | rw [if_neg (show ¬ (false = true) by decide)] at H | skip)
    obtain rfl := Option.some.inj H
    go_wp2
    go_ret
    exact ⟨Xe, Xi⟩
  ·replace c13 := Bool.eq_false_iff.mpr c13
   subst c13
   (first | rw [if_neg (show ¬ (false = true) by decide)] at H | skip)
   obtain rfl := Option.some.inj H
   go_wp2
   go_ret
   exact ⟨Xe, Xi⟩

/-! ### impl_own: function 70 -/
def impl_own.l0 : Nat → Int → Int → List (S44) → Int → Int → Option (Int)
 | 0, _, _, _, _, _ => none
 | k + 1, x1, x2, x9, x10, x11 => if x11 < x10 then (if 0 ≤ x11 then (if x11 < (x9.length : Int) then (if ((rd_T44 x9 x11).f0) = x1 then (if ((rd_T44 x9 x11).f1) = x2 then (some ((rd_T44 x9 x11).f2)) else (impl_own.l0 k x1 x2 x9 x10 (wrap64 (x11 + 1)))) else (impl_own.l0 k x1 x2 x9 x10 (wrap64 (x11 + 1)))) else (none)) else (none)) else (some 0)
def impl_own.f (k : Nat) (l0 : List (S44)) (a1 : Int) (a2 : Int) : Option (Int) := impl_own.l0 k a1 a2 l0 (l0.length : Int) 0
set_option maxHeartbeats 8000000 in
set_option maxRecDepth 100000 in
theorem impl_own.calls (k : Nat) (A0 : Option Addr) (c0 : Nat) (l0 : List (S44)) (a1 : Int) (a2 : Int) (r : Int) (w : World) (hr0 : Kd.C k44 w A0 l0.length l0) (hc0 : l0.length ≤ c0) (h : impl_own.f k l0 a1 a2 = some r) :
  Calls Try.prog 70 #[.slice A0 l0.length c0, .int .i64 a1, .int .i64 a2] w fun e w' => e = .returned (.int .i64 r) ∧ Below w.heap.size w w' := by
 have hu44 := Try.underlying44
 have HR0 := Aside0.mk hr0
 have HC0 := Aside0.mk hc0
 clear hr0 hc0
 have HB := Aside0.mk (Below.refl w.heap.size w)
 have H : (impl_own.l0 k a1 a2 l0 (l0.length : Int) 0) = some r := h
 clear h
 have H' := Aside0.mk H
 clear H
 go_enter Try.func70, Try.ntmps70
 go_wp2
 go_loopg [11] k (fun kq v11 w' => ∃ (x11_1 : Int), v11 = .int .i64 x11_1 ∧ Aside0 (impl_own.l0 kq a1 a2 l0 (l0.length : Int) x11_1 = some r) ∧ Aside0 (kq ≤ k) ∧ Aside0 (Below w.heap.size w w'))
 case atStart => exact ⟨(0), Xr, H', Xkr, ⟨Xi⟩⟩
 case round =>
  clear H'
  obtain ⟨x11_1, rfl, HA, HK1, HB⟩ := hrel
  cases gk with
  | zero => cases HA.out
  | succ k1 =>
   have H := HA.out
   clear HA
   simp only [impl_own.l0] at H
   obtain ⟨c4b0, H⟩ | ⟨c4b0, H⟩ := Xit H
   ·obtain ⟨c5b0, H⟩ := Xid H
    obtain ⟨c6b0, H⟩ := Xid H
    have HC7 := Aside0.mk H
    clear H
    obtain ⟨ad317, e317, p317, q317, hx317_0, hx317_1, hx317_2⟩ := at_B44 HR0 x11_1 Xa Xa HB
    cases e317
    go_upto_region 4 with (first | ((with_reducible refine gate_dst (N := 8) rfl ?_); refine Xbox 8 #[.int .i64 0, .int .i64 0, .int .i64 0] 44 ?_; intro gb318 hg w8 hbox hb; have BK318 := Aside0.mk (hbox); have GE318 := Xge hg Xi; replace HB := Aside0.mk (below_step Xi hb); clear hb hbox hg; obtain ⟨hcz9_0, hcz9_1, hcz9_2⟩ := Xc3 BK318; obtain ⟨hfz9_0, hfz9_1, hfz9_2⟩ := Xf3 BK318) | ((with_reducible refine gate_store (t := 44) (p := 8) rfl ?_); refine store_event (t := 44) (p := 8) (v := ?vo_w10) (w1 := (((w8.setCell ⟨gb318, 0, none⟩ (.int .i64 ((rd_T44 l0 x11_1).f0))).setCell ⟨gb318, 1, none⟩ (.int .i64 ((rd_T44 l0 x11_1).f1))).setCell ⟨gb318, 2, none⟩ (.int .i64 ((rd_T44 l0 x11_1).f2)))) ?hg ?ho ?hn ?hr ?_; (case ho => rfl); (case hg => rfl); (case hn => rfl); (case hr => first | (go_simp; done) | (go_simp; rfl)); intro w10 hw; have n0_ : Aside0 (w10.heap[gb318]? = some (.cells #[.int .i64 ((rd_T44 l0 x11_1).f0), .int .i64 ((rd_T44 l0 x11_1).f1), .int .i64 ((rd_T44 l0 x11_1).f2)] 44 (0, 0))) := ⟨(by rw [hw]; exact (by (with_reducible repeat (first | refine blk_drewN ?_ _ | refine blk_drew ?_ | refine blk_alloc ?_ _)); refine blk_put (cs := #[.int .i64 ((rd_T44 l0 x11_1).f0), .int .i64 ((rd_T44 l0 x11_1).f1), .int .i64 0]) ?_ 2 _ rfl; (with_reducible repeat (first | refine blk_drewN ?_ _ | refine blk_drew ?_ | refine blk_alloc ?_ _)); refine blk_put (cs := #[.int .i64 ((rd_T44 l0 x11_1).f0), .int .i64 0, .int .i64 0]) ?_ 1 _ rfl; (with_reducible repeat (first | refine blk_drewN ?_ _ | refine blk_drew ?_ | refine blk_alloc ?_ _)); refine blk_put (cs := #[.int .i64 0, .int .i64 0, .int .i64 0]) ?_ 0 _ rfl; (with_reducible repeat (first | refine blk_drewN ?_ _ | refine blk_drew ?_ | refine blk_alloc ?_ _)); exact BK318.out))⟩; have n1_ : Aside0 (Below w.heap.size w w10) := ⟨(by rw [hw]; exact Xi)⟩; clear hw; clear BK318; clear HB; have BK318 := n0_; have HB := n1_; clear n0_ n1_))
    have H := HC7.out
    clear HC7
    obtain ⟨c11, H⟩ | ⟨c11, H⟩ := Xiu H
    ·have c11b0 : (((rd_T44 l0 x11_1).f0) == a1) = true := beq_iff_eq.mpr c11
     have c11b1 : (((rd_T44 l0 x11_1).f0) != a1) = false := bne_eq_false_iff_eq.mpr c11
     clear c11
     obtain ⟨c12, H⟩ | ⟨c12, H⟩ := Xiu H
     ·have c12b0 : (((rd_T44 l0 x11_1).f1) == a2) = true := beq_iff_eq.mpr c12
      have c12b1 : (((rd_T44 l0 x11_1).f1) != a2) = false := bne_eq_false_iff_eq.mpr c12
      clear c12
      obtain rfl := Option.some.inj H
      obtain ⟨hcz13_0, hcz13_1, hcz13_2⟩ := Xc3 BK318
      obtain ⟨hfz13_0, hfz13_1, hfz13_2⟩ := Xf3 BK318
      go_wp2
      go_ret
      exact ⟨Xe, Xi⟩
     ·have c12b0 : (((rd_T44 l0 x11_1).f1) == a2) = false := beq_eq_false_iff_ne.mpr c12
      have c12b1 : (((rd_T44 l0 x11_1).f1) != a2) = true := bne_iff_ne.mpr c12
      have H' := Aside0.mk H
      clear H
      obtain ⟨hcz14_0, hcz14_1, hcz14_2⟩ := Xc3 BK318
      obtain ⟨hfz14_0, hfz14_1, hfz14_2⟩ := Xf3 BK318
      go_wp2
      go_roundg k1
      case measure => have := HK1.out; omega
      case rel => exact ⟨(wrap64 (x11_1 + 1)), Xr, H', Xk1, ⟨Xi⟩⟩
    ·have c11b0 : (((rd_T44 l0 x11_1).f0) == a1) = false := beq_eq_false_iff_ne.mpr c11
     have c11b1 : (((rd_T44 l0 x11_1).f0) != a1) = true := bne_iff_ne.mpr c11
     have H' := Aside0.mk H
     clear H
     obtain ⟨hcz15_0, hcz15_1, hcz15_2⟩ := Xc3 BK318
     obtain ⟨hfz15_0, hfz15_1, hfz15_2⟩ := Xf3 BK318
     go_wp2
     go_roundg k1
     case measure => have := HK1.out; omega
     case rel => exact ⟨(wrap64 (x11_1 + 1)), Xr, H', Xk1, ⟨Xi⟩⟩
   ·obtain rfl := Option.some.inj H
    go_wp2
    go_ret
    exact ⟨Xe, Xi⟩

/-! ### impl_drop_1: function 146 -/
def impl_drop_1.f (a0_0 : Int) (a0_1 : Int) (a0_2 : Int) (a1_0 : Int) (a2_0 : Int) : Option (Bool) := if a0_0 = a1_0 then (some (a0_1 == a2_0)) else (some false)
set_option maxHeartbeats 8000000 in
set_option maxRecDepth 100000 in
theorem impl_drop_1.calls (a0_0 : Int) (a0_1 : Int) (a0_2 : Int) (g1_ : Nat) (a1_0 : Int) (g2_ : Nat) (a2_0 : Int) (r : Bool) (w : World) (hg1_ : w.heap[g1_]? = some (.cells #[.int .i64 a1_0] 3 (0, 0))) (hg2_ : w.heap[g2_]? = some (.cells #[.int .i64 a2_0] 3 (0, 0))) (h : impl_drop_1.f a0_0 a0_1 a0_2 a1_0 a2_0 = some r) :
  Calls Try.prog 146 #[.agg #[.int .i64 a0_0, .int .i64 a0_1, .int .i64 a0_2], .pointer (some ⟨g1_, 0, none⟩), .pointer (some ⟨g2_, 0, none⟩)] w fun e w' => e = .returned (.bool r) ∧ Below w.heap.size w w' := by
 have hu44 := Try.underlying44
 have BK1 := Aside0.mk hg1_
 clear hg1_
 have BK2 := Aside0.mk hg2_
 clear hg2_
 have HB := Aside0.mk (Below.refl w.heap.size w)
 have H : (if a0_0 = a1_0 then (some (a0_1 == a2_0)) else (some false)) = some r := h
 clear h
 have HC4 := Aside0.mk H
 clear H
 go_enter Try.func146, Try.ntmps146
 go_upto_region 1 with (first | ((with_reducible refine gate_dst (N := 3) rfl ?_); refine Xbox 3 #[.int .i64 a0_0, .int .i64 a0_1, .int .i64 a0_2] 44 ?_; intro gb325 hg w5 hbox hb; have BK325 := Aside0.mk (hbox); have GE325 := Xge hg Xi; replace HB := Aside0.mk (below_step Xi hb); have NB1_325 := Xnb hg BK1; have NB325_1 := Xns NB1_325; replace BK1 := Xbb BK1 hb; have NB2_325 := Xnb hg BK2; have NB325_2 := Xns NB2_325; replace BK2 := Xbb BK2 hb; clear hb hbox hg))
 have H := HC4.out
 clear HC4
 obtain ⟨c6, H⟩ | ⟨c6, H⟩ := Xiu H
 ·have c6b0 : (a0_0 == a1_0) = true := beq_iff_eq.mpr c6
  have c6b1 : (a0_0 != a1_0) = false := bne_eq_false_iff_eq.mpr c6
  clear c6
  obtain rfl := Option.some.inj H
  have hnb7 := NB325_1.out
  have hnc7 := NB1_325.out
  have hnb8 := NB325_2.out
  have hnc8 := NB2_325.out
  obtain ⟨hcz9_0, hcz9_1, hcz9_2⟩ := Xc3 BK325
  have hcz10_0 := (blk_cell BK1.out 0).trans XW.i0
  have hcz11_0 := (blk_cell BK2.out 0).trans XW.i0
  go_wp2
  go_ret
  exact ⟨Xe, Xi⟩
 ·have c6b0 : (a0_0 == a1_0) = false := beq_eq_false_iff_ne.mpr c6
  have c6b1 : (a0_0 != a1_0) = true := bne_iff_ne.mpr c6
  obtain rfl := Option.some.inj H
  have hnb12 := NB325_1.out
  have hnc12 := NB1_325.out
  have hnb13 := NB325_2.out
  have hnc13 := NB2_325.out
  obtain ⟨hcz14_0, hcz14_1, hcz14_2⟩ := Xc3 BK325
  have hcz15_0 := (blk_cell BK1.out 0).trans XW.i0
  go_wp2
  go_ret
  exact ⟨Xe, Xi⟩

/-! ### slices_IndexFunc_impl_Hold_impl_Hold_at_impl_drop_1: function 202 -/
def slices_IndexFunc_impl_Hold_impl_Hold_at_impl_drop_1.l0 : Nat → List (S44) → Int → Int → Int → Int → Option (Int)
 | 0, _, _, _, _, _ => none
 | k + 1, x0, x7, x8, x26000, x27000 => if x8 < x7 then (if 0 ≤ x8 then (if x8 < (x0.length : Int) then ((impl_drop_1.f ((rd_T44 x0 x8).f0) ((rd_T44 x0 x8).f1) ((rd_T44 x0 x8).f2) x26000 x27000).bind fun t327 => (if t327 = true then (some x8) else (slices_IndexFunc_impl_Hold_impl_Hold_at_impl_drop_1.l0 k x0 x7 (wrap64 (x8 + 1)) x26000 x27000))) else (none)) else (none)) else (some (-1))
def slices_IndexFunc_impl_Hold_impl_Hold_at_impl_drop_1.f (k : Nat) (l0 : List (S44)) (a1_0_0 : Int) (a1_1_0 : Int) : Option (Int) := slices_IndexFunc_impl_Hold_impl_Hold_at_impl_drop_1.l0 k l0 (l0.length : Int) 0 a1_0_0 a1_1_0
set_option maxHeartbeats 8000000 in
set_option maxRecDepth 100000 in
theorem slices_IndexFunc_impl_Hold_impl_Hold_at_impl_drop_1.calls (k : Nat) (A0 : Option Addr) (c0 : Nat) (l0 : List (S44)) (g1_0_ : Nat) (g1_1_ : Nat) (a1_0_0 : Int) (a1_1_0 : Int) (r : Int) (w : World) (hr0 : Kd.C k44 w A0 l0.length l0) (hc0 : l0.length ≤ c0) (hg1_0_ : w.heap[g1_0_]? = some (.cells #[.int .i64 a1_0_0] 3 (0, 0))) (hg1_1_ : w.heap[g1_1_]? = some (.cells #[.int .i64 a1_1_0] 3 (0, 0))) (h : slices_IndexFunc_impl_Hold_impl_Hold_at_impl_drop_1.f k l0 a1_0_0 a1_1_0 = some r) :
  Calls Try.prog 202 #[.slice A0 l0.length c0, .func (.func 146) #[] #[.pointer (some ⟨g1_0_, 0, none⟩), .pointer (some ⟨g1_1_, 0, none⟩)]] w fun e w' => e = .returned (.int .i64 r) ∧ Below w.heap.size w w' := by
 have hu44 := Try.underlying44
 have HR0 := Aside0.mk hr0
 have HC0 := Aside0.mk hc0
 clear hr0 hc0
 have BK25 := Aside0.mk hg1_0_
 clear hg1_0_
 have BK26 := Aside0.mk hg1_1_
 clear hg1_1_
 have HB := Aside0.mk (Below.refl w.heap.size w)
 have H : (slices_IndexFunc_impl_Hold_impl_Hold_at_impl_drop_1.l0 k l0 (l0.length : Int) 0 a1_0_0 a1_1_0) = some r := h
 clear h
 have H' := Aside0.mk H
 clear H
 go_enter Try.func202, Try.ntmps202
 go_wp2
 go_loopg [8] k (fun kq v8 w' => ∃ (x8_1 : Int), v8 = .int .i64 x8_1 ∧ Aside0 (slices_IndexFunc_impl_Hold_impl_Hold_at_impl_drop_1.l0 kq l0 (l0.length : Int) x8_1 a1_0_0 a1_1_0 = some r) ∧ Aside0 (kq ≤ k) ∧ Aside0 (w'.heap[g1_0_]? = some (.cells #[.int .i64 a1_0_0] 3 (0, 0))) ∧ Aside0 (w'.heap[g1_1_]? = some (.cells #[.int .i64 a1_1_0] 3 (0, 0))) ∧ Aside0 (Below w.heap.size w w'))
 case atStart => exact ⟨(0), Xr, H', Xkr, BK25, BK26, ⟨Xi⟩⟩
 case round =>
  clear H'
  obtain ⟨x8_1, rfl, HA, HK1, BK25, BK26, HB⟩ := hrel
  cases gk with
  | zero => cases HA.out
  | succ k1 =>
   have H := HA.out
   clear HA
   simp only [slices_IndexFunc_impl_Hold_impl_Hold_at_impl_drop_1.l0] at H
   obtain ⟨c3b0, H⟩ | ⟨c3b0, H⟩ := Xit H
   ·obtain ⟨c4b0, H⟩ := Xid H
    obtain ⟨c5b0, H⟩ := Xid H
    obtain ⟨t327, A6, H⟩ := Xbi H
    (try dsimp only at H)
    have HC7 := Aside0.mk H
    clear H
    obtain ⟨ad326, e326, p326, q326, hx326_0, hx326_1, hx326_2⟩ := at_B44 HR0 x8_1 Xa Xa HB
    cases e326
    go_upto_if 16 with (first | (go_at_call 146; (with_reducible refine (impl_drop_1.calls ((rd_T44 l0 x8_1).f0) ((rd_T44 l0 x8_1).f1) ((rd_T44 l0 x8_1).f2) g1_0_ a1_0_0 g1_1_ a1_1_0 t327 _ ?side1 ?side2 A6.out).mono ?_); (case side1 => exact BK25.out); (case side2 => exact BK26.out); rintro e w8 ⟨rfl, hb⟩; replace BK25 := Xbb BK25 hb; replace BK26 := Xbb BK26 hb; replace HB := Aside0.mk (below_step Xi hb); clear hb))
    have H := HC7.out
    clear HC7
    by_cases c9 : t327 = true
    ·subst c9
     (first | rw [if_pos rfl] at H | skip)
     obtain rfl := Option.some.inj H
     go_wp2
     go_ret
     exact ⟨Xe, Xi⟩
    ·replace c9 := Bool.eq_false_iff.mpr c9
     subst c9
     (first | rw [if_neg (show ¬ (false = true) by decide)] at H | skip)
     have H' := Aside0.mk H
     clear H
     go_wp2
     go_roundg k1
     case measure => have := HK1.out; omega
     case rel => exact ⟨(wrap64 (x8_1 + 1)), Xr, H', Xk1, BK25, BK26, ⟨Xi⟩⟩
   ·obtain rfl := Option.some.inj H
    go_wp2
    go_ret
    exact ⟨Xe, Xi⟩

/-! ### slices_DeleteFunc_impl_Hold_impl_Hold_at_impl_drop_1: function 144 -/
def slices_DeleteFunc_impl_Hold_impl_Hold_at_impl_drop_1.l0 : Nat → List (S44) → Int → Int → Int → Int → Option ((List (S44)))
 | 0, _, _, _, _, _ => none
 | k + 1, x0, x5, x6, x26000, x27000 => if x6 < (x0.length : Int) then (if 0 ≤ x6 then ((impl_drop_1.f ((rd_T44 x0 x6).f0) ((rd_T44 x0 x6).f1) ((rd_T44 x0 x6).f2) x26000 x27000).bind fun t331 => (if t331 = true then (slices_DeleteFunc_impl_Hold_impl_Hold_at_impl_drop_1.l0 k x0 x5 (wrap64 (x6 + 1)) x26000 x27000) else (if 0 ≤ x5 then (if x5 < (x0.length : Int) then (slices_DeleteFunc_impl_Hold_impl_Hold_at_impl_drop_1.l0 k (x0.set (x5 : Int).toNat (⟨(rd_T44 x0 x6).f0, (rd_T44 x0 x6).f1, (rd_T44 x0 x6).f2⟩ : S44)) (wrap64 (x5 + 1)) (wrap64 (x6 + 1)) x26000 x27000) else (none)) else (none)))) else (none)) else (if 0 ≤ x5 then (if x5 ≤ (x0.length : Int) then (some ((x0.take (x5 : Int).toNat ++ List.replicate (x0.length - (x5 : Int).toNat) z44).take (x5 : Int).toNat)) else (none)) else (none))
def slices_DeleteFunc_impl_Hold_impl_Hold_at_impl_drop_1.f (k : Nat) (l0 : List (S44)) (a1_0_0 : Int) (a1_1_0 : Int) : Option ((List (S44))) := (slices_IndexFunc_impl_Hold_impl_Hold_at_impl_drop_1.f k l0 a1_0_0 a1_1_0).bind fun t328 => (if t328 = (-1) then (some l0) else (slices_DeleteFunc_impl_Hold_impl_Hold_at_impl_drop_1.l0 k l0 t328 (wrap64 (t328 + 1)) a1_0_0 a1_1_0))
set_option maxHeartbeats 8000000 in
set_option maxRecDepth 100000 in
theorem slices_DeleteFunc_impl_Hold_impl_Hold_at_impl_drop_1.calls (k : Nat) (P0_ : Nat → Prop) (u9000_ : Value) (l0 : List (S44)) (g1_0_ : Nat) (g1_1_ : Nat) (a1_0_0 : Int) (a1_1_0 : Int) (r : List (S44)) (w0 w : World) (hB : Below w0.heap.size w0 w) (ho0 : Kd.R k44 44 w w0.heap.size P0_ u9000_ l0) (hg1_0_ : w.heap[g1_0_]? = some (.cells #[.int .i64 a1_0_0] 3 (0, 0))) (hg1_1_ : w.heap[g1_1_]? = some (.cells #[.int .i64 a1_1_0] 3 (0, 0))) (h : slices_DeleteFunc_impl_Hold_impl_Hold_at_impl_drop_1.f k l0 a1_0_0 a1_1_0 = some r) :
  Calls Try.prog 144 #[u9000_, .func (.func 146) #[] #[.pointer (some ⟨g1_0_, 0, none⟩), .pointer (some ⟨g1_1_, 0, none⟩)]] w fun e w' => ∃ v0_ : Value, e = .returned (v0_) ∧ Kd.R k44 44 w' w0.heap.size (fun k_ => (P0_ k_ ∨ w.heap.size ≤ k_)) v0_ r ∧ Below w0.heap.size w0 w' ∧ Kept w w' (fun k_ => P0_ k_) := by
 have hu44 := Try.underlying44
 have HO0 := Aside0.mk (show Kd.R k44 44 w w0.heap.size (fun k_ => (P0_ k_ ∨ w.heap.size ≤ k_)) u9000_ l0 from Kd.R_mono ho0 (fun k_ hk => (.inl hk)))
 have BK25 := Aside0.mk hg1_0_
 clear hg1_0_
 have BK26 := Aside0.mk hg1_1_
 clear hg1_1_
 have HK := Aside0.mk (Kept.refl w (fun k_ => P0_ k_))
 have HW0 := Aside0.mk hB.size
 have HB := Aside0.mk hB
 clear hB
 have H : ((slices_IndexFunc_impl_Hold_impl_Hold_at_impl_drop_1.f k l0 a1_0_0 a1_1_0).bind fun t328 => (if t328 = (-1) then (some l0) else (slices_DeleteFunc_impl_Hold_impl_Hold_at_impl_drop_1.l0 k l0 t328 (wrap64 (t328 + 1)) a1_0_0 a1_1_0))) = some r := h
 clear h
 obtain ⟨t328, A3, H⟩ := Xbi H
 (try dsimp only at H)
 have HC4 := Aside0.mk H
 clear H
 obtain ⟨Ao5, co5, eo5⟩ := Kd.R_slice HO0.out
 subst eo5
 go_enter Try.func144, Try.ntmps144
 go_upto_if 12 with (first | ((with_reducible refine gate_callee (f := 202) rfl ?_); refine Xgo 10 Try.func202 #[.slice Ao5 l0.length co5, .func (.func 146) #[] #[.pointer (some ⟨g1_0_, 0, none⟩), .pointer (some ⟨g1_1_, 0, none⟩)]] ?_; (with_reducible refine (slices_IndexFunc_impl_Hold_impl_Hold_at_impl_drop_1.calls k _ _ l0 g1_0_ g1_1_ a1_0_0 a1_1_0 t328 _ ?side1 ?side2 ?side3 ?side4 A3.out).mono ?_); (case side1 => repeat (first | exact (Kd.R_reads' HO0.out).2.2 | (with_reducible first | refine Kd.C_alloc ?_ _ | refine Kd.C_drewN ?_ _ | refine Kd.C_drew ?_))); (case side2 => exact (Kd.R_reads' HO0.out).2.1); (case side3 => exact BK25.out); (case side4 => exact BK26.out); rintro e w6 ⟨rfl, hb⟩; refine ⟨_, rfl, ?_⟩; replace HO0 := Aside0.mk (Kd.R_below (Xq HO0) hb); replace BK25 := Xbb BK25 hb; replace BK26 := Xbb BK26 hb; replace HK := Aside0.mk (Kept.below (S := (fun k_ => P0_ k_)) (by repeat first | (with_reducible first | exact HK.out | apply Kept.drewN | apply Kept.drew | refine Kept.setCell ?_ (.inr GW25.out) _ | refine Kept.setCell ?_ (.inr GW26.out) _) | exact HK.out) hb); replace HB := Aside0.mk (below_step Xi hb); clear hb))
 have H := HC4.out
 clear HC4
 obtain ⟨c7, H⟩ | ⟨c7, H⟩ := Xiu H
 ·have c7b0 : (t328 == (-1)) = true := beq_iff_eq.mpr c7
  have c7b1 : (t328 != (-1)) = false := bne_eq_false_iff_eq.mpr c7
  clear c7
  (first | rw [c7b0] | (simp only [i64_w, i32_w]; rw [c7b0]) | skip)
  obtain rfl := Option.some.inj H
  go_wp2
  go_ret
  exact ⟨_, Xe, Xq HO0, Xi, by repeat first | (with_reducible first | exact HK.out | apply Kept.drewN | apply Kept.drew | refine Kept.setCell ?_ (.inr GW25.out) _ | refine Kept.setCell ?_ (.inr GW26.out) _) | exact HK.out⟩
 ·have c7b0 : (t328 == (-1)) = false := beq_eq_false_iff_ne.mpr c7
  have c7b1 : (t328 != (-1)) = true := bne_iff_ne.mpr c7
  (first | rw [c7b0] | (simp only [i64_w, i32_w]; rw [c7b0]) | skip)
  have H' := Aside0.mk H
  clear H
  go_wp2
  go_loopg [5, 6] k (fun kq v5 v6 w' => ∃ (x0_1 : List (S44)) (x5_1 : Int) (x6_1 : Int), v5 = .int .i64 x5_1 ∧ v6 = .int .i64 x6_1 ∧ Aside0 (slices_DeleteFunc_impl_Hold_impl_Hold_at_impl_drop_1.l0 kq x0_1 x5_1 x6_1 a1_0_0 a1_1_0 = some r) ∧ Aside0 (kq ≤ k) ∧ Aside0 (Kd.R k44 44 w' w0.heap.size (fun k_ => (P0_ k_ ∨ w.heap.size ≤ k_)) (.slice Ao5 l0.length co5) x0_1) ∧ Aside0 (w'.heap[g1_0_]? = some (.cells #[.int .i64 a1_0_0] 3 (0, 0))) ∧ Aside0 (w'.heap[g1_1_]? = some (.cells #[.int .i64 a1_1_0] 3 (0, 0))) ∧ Aside0 (Kept w w' (fun k_ => P0_ k_)) ∧ Aside0 (Below w0.heap.size w0 w'))
  case atStart => exact ⟨(l0), (t328), (wrap64 (t328 + 1)), Xr, Xr, H', Xkr, (Xp' HO0), BK25, BK26, ⟨by repeat first | (with_reducible first | exact HK.out | apply Kept.drewN | apply Kept.drew | refine Kept.setCell ?_ (.inr GW25.out) _ | refine Kept.setCell ?_ (.inr GW26.out) _) | exact HK.out⟩, ⟨Xi⟩⟩
  case round =>
   clear H'
   (try clear c7); (try clear c7b0); (try clear c7b1)
   obtain ⟨x0_1, x5_1, x6_1, rfl, rfl, HA, HK1, HO_0, BK25, BK26, HK, HB⟩ := hrel
   have hl0_1 := (Kd.R_reads' HO_0.out).1
   rw [hl0_1] at HO_0
   (try simp only [hl0_1])
   (try simp only [hl0_1] at BK25)
   (try simp only [hl0_1] at BK26)
   cases gk with
   | zero => cases HA.out
   | succ k1 =>
    have H := HA.out
    clear HA
    simp only [slices_DeleteFunc_impl_Hold_impl_Hold_at_impl_drop_1.l0] at H
    obtain ⟨c8b0, H⟩ | ⟨c8b0, H⟩ := Xit H
    ·obtain ⟨c9b0, H⟩ := Xid H
     obtain ⟨t331, A10, H⟩ := Xbi H
     (try dsimp only at H)
     have HC11 := Aside0.mk H
     clear H
     have p329 : 0 ≤ (x6_1 : Int) := of_decide_eq_true Xa
     have q329 : x6_1 < (x0_1.length : Int) := of_decide_eq_true Xa
     obtain ⟨ad329, e329, hx329_0, hx329_1, hx329_2⟩ := at_T44 (Kd.R_reads' HO_0.out).2.2 x6_1 p329 q329
     cases e329
     replace p329 := eq_true p329
     replace q329 := eq_true q329
     go_upto_if 29 with (first | ((with_reducible refine gate_dst (N := 7) rfl ?_); refine Xbox 7 #[.int .i64 0, .int .i64 0, .int .i64 0] 44 ?_; intro gb330 hg w12 hbox hb; replace HO_0 := Aside0.mk (Kd.R_below (Kd.R_elderB (Xq HO_0) gb330 (Nat.le_of_eq hg.symm)) hb); have BK330 := Aside0.mk (hbox); have GW330 := Aside0.mk ((by rw [hg]; exact (by first | exact HK.out.1 | exact (show Kept w _ (fun k_ => P0_ k_) from by repeat first | (with_reducible first | exact HK.out | apply Kept.drewN | apply Kept.drew | refine Kept.setCell ?_ (.inr GW25.out) _ | refine Kept.setCell ?_ (.inr GW26.out) _) | exact HK.out).1) : w.heap.size ≤ gb330)); replace HK := Aside0.mk (Kept.below (S := (fun k_ => P0_ k_)) (by repeat first | (with_reducible first | exact HK.out | apply Kept.drewN | apply Kept.drew | refine Kept.setCell ?_ (.inr GW25.out) _ | refine Kept.setCell ?_ (.inr GW26.out) _) | exact HK.out) hb); have GE330 := Aside0.mk ((by rw [hg]; exact (below_size Xi) : w0.heap.size ≤ gb330)); replace HB := Aside0.mk (below_step Xi hb); have NB25_330 := Xnb hg BK25; have NB330_25 := Xns NB25_330; replace BK25 := Xbb BK25 hb; have NB26_330 := Xnb hg BK26; have NB330_26 := Xns NB26_330; replace BK26 := Xbb BK26 hb; clear hb hbox hg; have hnb13 := NB330_25.out; have hnc13 := NB25_330.out; have hnb14 := NB330_26.out; have hnc14 := NB26_330.out; obtain ⟨hcz15_0, hcz15_1, hcz15_2⟩ := Xc3 BK330; obtain ⟨hfz15_0, hfz15_1, hfz15_2⟩ := Xf3 BK330) | ((with_reducible refine gate_store (t := 44) (p := 7) rfl ?_); refine store_event (t := 44) (p := 7) (v := ?vo_w16) (w1 := (((w12.setCell ⟨gb330, 0, none⟩ (.int .i64 ((rd_T44 x0_1 x6_1).f0))).setCell ⟨gb330, 1, none⟩ (.int .i64 ((rd_T44 x0_1 x6_1).f1))).setCell ⟨gb330, 2, none⟩ (.int .i64 ((rd_T44 x0_1 x6_1).f2)))) ?hg ?ho ?hn ?hr ?_; (case ho => rfl); (case hg => rfl); (case hn => rfl); (case hr => first | (go_simp; done) | (go_simp; rfl)); intro w16 hw; have n0_ : Aside0 (Kd.R k44 44 w16 w0.heap.size (fun k_ => (P0_ k_ ∨ w.heap.size ≤ k_) ∧ k_ ≠ gb330) (.slice (some ad329) x0_1.length co5) x0_1) := ⟨(by rw [hw]; exact (by (with_reducible repeat (first | apply Kd.R_alloc | apply Kd.R_drewN | apply Kd.R_drew)); exact Kd.R_mono (Kd.R_far (p := ⟨gb330, 2, none⟩) (Kd.R_far (p := ⟨gb330, 1, none⟩) (Kd.R_far (p := ⟨gb330, 0, none⟩) (Kd.R_mono HO_0.out (fun k_ hk => (⟨hk, hk.2⟩ : _ ∧ k_ ≠ gb330))) (fun _ hk => hk.2) (.int .i64 ((rd_T44 x0_1 x6_1).f0))) (fun _ hk => hk.2) (.int .i64 ((rd_T44 x0_1 x6_1).f1))) (fun _ hk => hk.2) (.int .i64 ((rd_T44 x0_1 x6_1).f2))) (fun _ hk => ⟨hk.1.1, hk.1.2⟩)))⟩; have n1_ : Aside0 (w16.heap[g1_0_]? = some (.cells #[.int .i64 a1_0_0] 3 (0, 0))) := ⟨(by rw [hw]; exact (by (with_reducible repeat (first | refine blk_drewN ?_ _ | refine blk_drew ?_ | refine blk_alloc ?_ _)); refine blk_far ?_ NB25_330.out _; (with_reducible repeat (first | refine blk_drewN ?_ _ | refine blk_drew ?_ | refine blk_alloc ?_ _)); refine blk_far ?_ NB25_330.out _; (with_reducible repeat (first | refine blk_drewN ?_ _ | refine blk_drew ?_ | refine blk_alloc ?_ _)); refine blk_far ?_ NB25_330.out _; (with_reducible repeat (first | refine blk_drewN ?_ _ | refine blk_drew ?_ | refine blk_alloc ?_ _)); exact BK25.out))⟩; have n2_ : Aside0 (w16.heap[g1_1_]? = some (.cells #[.int .i64 a1_1_0] 3 (0, 0))) := ⟨(by rw [hw]; exact (by (with_reducible repeat (first | refine blk_drewN ?_ _ | refine blk_drew ?_ | refine blk_alloc ?_ _)); refine blk_far ?_ NB26_330.out _; (with_reducible repeat (first | refine blk_drewN ?_ _ | refine blk_drew ?_ | refine blk_alloc ?_ _)); refine blk_far ?_ NB26_330.out _; (with_reducible repeat (first | refine blk_drewN ?_ _ | refine blk_drew ?_ | refine blk_alloc ?_ _)); refine blk_far ?_ NB26_330.out _; (with_reducible repeat (first | refine blk_drewN ?_ _ | refine blk_drew ?_ | refine blk_alloc ?_ _)); exact BK26.out))⟩; have n3_ : Aside0 (w16.heap[gb330]? = some (.cells #[.int .i64 ((rd_T44 x0_1 x6_1).f0), .int .i64 ((rd_T44 x0_1 x6_1).f1), .int .i64 ((rd_T44 x0_1 x6_1).f2)] 44 (0, 0))) := ⟨(by rw [hw]; exact (by (with_reducible repeat (first | refine blk_drewN ?_ _ | refine blk_drew ?_ | refine blk_alloc ?_ _)); refine blk_put (cs := #[.int .i64 ((rd_T44 x0_1 x6_1).f0), .int .i64 ((rd_T44 x0_1 x6_1).f1), .int .i64 0]) ?_ 2 _ rfl; (with_reducible repeat (first | refine blk_drewN ?_ _ | refine blk_drew ?_ | refine blk_alloc ?_ _)); refine blk_put (cs := #[.int .i64 ((rd_T44 x0_1 x6_1).f0), .int .i64 0, .int .i64 0]) ?_ 1 _ rfl; (with_reducible repeat (first | refine blk_drewN ?_ _ | refine blk_drew ?_ | refine blk_alloc ?_ _)); refine blk_put (cs := #[.int .i64 0, .int .i64 0, .int .i64 0]) ?_ 0 _ rfl; (with_reducible repeat (first | refine blk_drewN ?_ _ | refine blk_drew ?_ | refine blk_alloc ?_ _)); exact BK330.out))⟩; have n4_ : Aside0 (Kept w w16 (fun k_ => P0_ k_)) := ⟨(by rw [hw]; exact (by repeat first | (with_reducible first | exact HK.out | apply Kept.drewN | apply Kept.drew | refine Kept.setCell ?_ (.inr GW25.out) _ | refine Kept.setCell ?_ (.inr GW26.out) _ | refine Kept.setCell ?_ (.inr GW330.out) _) | exact HK.out))⟩; have n5_ : Aside0 (Below w0.heap.size w0 w16) := ⟨(by rw [hw]; exact Xi)⟩; clear hw; clear HO_0; clear BK25; clear BK26; clear BK330; clear HK; clear HB; have HO_0 := n0_; have BK25 := n1_; have BK26 := n2_; have BK330 := n3_; have HK := n4_; have HB := n5_; clear n0_ n1_ n2_ n3_ n4_ n5_; obtain ⟨hcz17_0, hcz17_1, hcz17_2⟩ := Xc3 BK330; obtain ⟨hfz17_0, hfz17_1, hfz17_2⟩ := Xf3 BK330) | (go_at_call 146; (with_reducible refine (impl_drop_1.calls ((rd_T44 x0_1 x6_1).f0) ((rd_T44 x0_1 x6_1).f1) ((rd_T44 x0_1 x6_1).f2) g1_0_ a1_0_0 g1_1_ a1_1_0 t331 _ ?side1 ?side2 A10.out).mono ?_); (case side1 => exact BK25.out); (case side2 => exact BK26.out); rintro e w18 ⟨rfl, hb⟩; replace HO_0 := Aside0.mk (Kd.R_below (Xq HO_0) hb); replace BK25 := Xbb BK25 hb; replace BK26 := Xbb BK26 hb; replace BK330 := Xbb BK330 hb; replace HK := Aside0.mk (Kept.below (S := (fun k_ => P0_ k_)) (by repeat first | (with_reducible first | exact HK.out | apply Kept.drewN | apply Kept.drew | refine Kept.setCell ?_ (.inr GW25.out) _ | refine Kept.setCell ?_ (.inr GW26.out) _ | refine Kept.setCell ?_ (.inr GW330.out) _) | exact HK.out) hb); replace HB := Aside0.mk (below_step Xi hb); clear hb))
     have H := HC11.out
     clear HC11
     by_cases c19 : t331 = true
     ·subst c19
      (first | rw [if_pos rfl] at H | skip)
      have H' := Aside0.mk H
      clear H
      go_wp2
      (try simp only [← hl0_1])
      go_roundg k1
      case measure => have := HK1.out; omega
      case rel => exact ⟨(x0_1), (x5_1), (wrap64 (x6_1 + 1)), Xr, Xr, H', Xk1, ⟨by (try simp only [hl0_1]); (with_reducible repeat (first | apply Kd.R_alloc | apply Kd.R_drewN | apply Kd.R_drew)); exact Kd.R_mono HO_0.out (fun _ hk => hk.1)⟩, ⟨by (try simp only [hl0_1]); exact BK25.out⟩, ⟨by (try simp only [hl0_1]); exact BK26.out⟩, ⟨by repeat first | (with_reducible first | exact HK.out | apply Kept.drewN | apply Kept.drew | refine Kept.setCell ?_ (.inr GW25.out) _ | refine Kept.setCell ?_ (.inr GW26.out) _ | refine Kept.setCell ?_ (.inr GW330.out) _) | exact HK.out⟩, ⟨Xi⟩⟩
     ·replace c19 := Bool.eq_false_iff.mpr c19
      subst c19
      (first | rw [if_neg (show ¬ (false = true) by decide)] at H | skip)
      obtain ⟨c20b0, H⟩ := Xid H
      (first | rw [c20b0] | (simp only [i64_w, i32_w]; rw [c20b0]) | skip)
      obtain ⟨c21b0, H⟩ := Xid H
      obtain ⟨y332, hy332⟩ : ∃ y_ : List (S44), y_ = (x0_1.set (x5_1 : Int).toNat (⟨(rd_T44 x0_1 x6_1).f0, (rd_T44 x0_1 x6_1).f1, (rd_T44 x0_1 x6_1).f2⟩ : S44)) := ⟨_, rfl⟩
      replace H : (slices_DeleteFunc_impl_Hold_impl_Hold_at_impl_drop_1.l0 k1 y332 (wrap64 (x5_1 + 1)) (wrap64 (x6_1 + 1)) a1_0_0 a1_1_0) = some r := by first | (rw [hy332]; with_reducible exact H) | (have H2_ := (Option.bind_some _ _).symm.trans H; rw [hy332]; with_reducible exact H2_) | (have H2_ := (Option.bind_some _ _).symm.trans H; with_reducible exact H2_) | with_reducible exact H | (rw [hy332]; exact H) | exact H
      have Ny332 := Aside0.mk hy332
      clear hy332
      have H' := Aside0.mk H
      clear H
      have hnb23 := NB330_25.out
      have hnc23 := NB25_330.out
      have hnb24 := NB330_26.out
      have hnc24 := NB26_330.out
      obtain ⟨hcz25_0, hcz25_1, hcz25_2⟩ := Xc3 BK330
      obtain ⟨hfz25_0, hfz25_1, hfz25_2⟩ := Xf3 BK330
      have p22 : 0 ≤ (x5_1 : Int) := of_decide_eq_true Xa
      have q22 : (x5_1 : Int) < ((x0_1.length : Int) : Int) := of_decide_eq_true Xa
      obtain ⟨go22, co22, eo22, gb22, gl22, cl22, HG22⟩ := Kd.R_form HO_0.out (by omega)
      (first | cases eo22 | (injection eo22 with ea_ en_ ec_; (first | subst ea_ | (injection ea_ with ea_; subst ea_)); subst ec_; clear en_))
      have GB22 := Aside0.mk gb22
      have GG22 := Aside0.mk HG22
      clear gb22 gl22 HG22
      have HMgo22 := Aside0.mk (show (P0_ go22 ∨ w.heap.size ≤ go22) from (HO_0.out.1 _ rfl).1)
      (first | simp only [add_plain] at hx329_0 | skip)
      (first | simp only [add_plain] at hx329_1 | skip)
      (first | simp only [add_plain] at hx329_2 | skip)
      obtain ⟨ce22, hcl22, hM22, hcc22, hfr22⟩ := Kd.R_elem HO_0.out z44 (x5_1 : Int) p22 q22
      obtain rfl := k44_openM hM22
      have hx22_0 : w18.cell? ⟨go22, (x5_1 : Int).toNat * 3, none⟩ = some (.int .i64 ((rd_T44 x0_1 x5_1).f0)) := hcc22 0 _ rfl
      have hx22_1 : w18.cell? ⟨go22, (x5_1 : Int).toNat * 3 + 1, none⟩ = some (.int .i64 ((rd_T44 x0_1 x5_1).f1)) := hcc22 1 _ rfl
      have hx22_2 : w18.cell? ⟨go22, (x5_1 : Int).toNat * 3 + 2, none⟩ = some (.int .i64 ((rd_T44 x0_1 x5_1).f2)) := hcc22 2 _ rfl
      have hf22_0 : w18.frozen? ⟨go22, (x5_1 : Int).toNat * 3, none⟩ = false := hfr22 0
      have hf22_1 : w18.frozen? ⟨go22, (x5_1 : Int).toNat * 3 + 1, none⟩ = false := hfr22 1
      have hf22_2 : w18.frozen? ⟨go22, (x5_1 : Int).toNat * 3 + 2, none⟩ = false := hfr22 2
      clear hcl22 hcc22 hfr22; (try clear hM22)
      replace p22 := eq_true p22
      replace q22 := eq_true q22
      have HX26 := Aside0.mk (show Kd.R k44 44 w18 w0.heap.size (fun k_ => (P0_ k_ ∨ w.heap.size ≤ k_) ∧ k_ ≠ gb330) (.slice (some ⟨go22, 0, none⟩) x0_1.length co5) x0_1 from (Xq HO_0))
      obtain ⟨ce26, hcl26, hM26, hcc26, hfr26⟩ := Kd.R_elem HX26.out z44 (x5_1 : Int) (of_decide_eq_true Xa) (by have h_ : (x5_1 : Int) < ((x0_1.length : Int) : Int) := of_decide_eq_true Xa; first | exact h_ | (have e_ := (Kd.R_reads' HO_0.out).1; omega) | simpa using h_)
      obtain rfl := k44_openM hM26
      have HP26 := Kd.R_seg HX26.out (x5_1 : Int) (of_decide_eq_true Xa) (by have h_ : (x5_1 : Int) < ((x0_1.length : Int) : Int) := of_decide_eq_true Xa; first | exact h_ | (have e_ := (Kd.R_reads' HO_0.out).1; omega) | simpa using h_) (seg := [.int .i64 ((rd_T44 x0_1 x6_1).f0), .int .i64 ((rd_T44 x0_1 x6_1).f1), .int .i64 ((rd_T44 x0_1 x6_1).f2)]) (j := 0) hcl26 hcc26 (show 3 ≤ 3 from by decide) (x' := (⟨(rd_T44 x0_1 x6_1).f0, (rd_T44 x0_1 x6_1).f1, (rd_T44 x0_1 x6_1).f2⟩ : S44)) (k44_mkM _ _ _ (⟨(rd_T44 x0_1 x6_1).f0, (rd_T44 x0_1 x6_1).f1, (rd_T44 x0_1 x6_1).f2⟩ : S44) ) (fun _ hk => hk)
      have hx26_0 := hcc26 0 _ rfl
      (try simp only [show (k44).sz = 3 from rfl, Nat.mul_one, Nat.add_zero] at hx26_0)
      have hf26_0 := hfr26 0
      (try simp only [show (k44).sz = 3 from rfl, Nat.mul_one, Nat.add_zero] at hf26_0)
      have hx26_1 := hcc26 1 _ rfl
      (try simp only [show (k44).sz = 3 from rfl, Nat.mul_one, Nat.add_zero] at hx26_1)
      have hf26_1 := hfr26 1
      (try simp only [show (k44).sz = 3 from rfl, Nat.mul_one, Nat.add_zero] at hf26_1)
      have hx26_2 := hcc26 2 _ rfl
      (try simp only [show (k44).sz = 3 from rfl, Nat.mul_one, Nat.add_zero] at hx26_2)
      have hf26_2 := hfr26 2
      (try simp only [show (k44).sz = 3 from rfl, Nat.mul_one, Nat.add_zero] at hf26_2)
      clear hcl26 hcc26 hfr26; (try clear hM26)
      go_wp2_with (first | ((with_reducible refine gate_store (t := 44) (p := 33) rfl ?_); refine store_event (t := 44) (p := 33) (v := ?vo_w27) (w1 := (((w18.setCell ⟨go22, (x5_1 : Int).toNat * 3, none⟩ (.int .i64 ((rd_T44 x0_1 x6_1).f0))).setCell ⟨go22, (x5_1 : Int).toNat * 3 + 1, none⟩ (.int .i64 ((rd_T44 x0_1 x6_1).f1))).setCell ⟨go22, (x5_1 : Int).toNat * 3 + 2, none⟩ (.int .i64 ((rd_T44 x0_1 x6_1).f2)))) ?hg ?ho ?hn ?hr ?_; (case ho => rfl); (case hg => rfl); (case hn => rfl); (case hr => first | (go_simp; done) | (go_simp; rfl)); intro w27 hw; have hg : w18.grownBy w27 (some go22) := (by rw [hw]; exact HP26.2); have hp_ : Kd.R k44 44 w27 w0.heap.size (fun k_ => (P0_ k_ ∨ w.heap.size ≤ k_) ∧ k_ ≠ gb330) (.slice (some ⟨go22, 0, none⟩) x0_1.length co5) y332 := (by rw [hw, Ny332.out]; exact HP26.1); clear HP26; replace BK25 := Aside0.mk (blk_grown (g := g1_0_) (o := .cells #[.int .i64 a1_0_0] 3 (0, 0)) BK25.out hg (Kd.R_ne HO_0.out BK25.out (by decide))); replace BK26 := Aside0.mk (blk_grown (g := g1_1_) (o := .cells #[.int .i64 a1_1_0] 3 (0, 0)) BK26.out hg (Kd.R_ne HO_0.out BK26.out (by decide))); replace BK330 := Aside0.mk (blk_grown (g := gb330) (o := .cells #[.int .i64 ((rd_T44 x0_1 x6_1).f0), .int .i64 ((rd_T44 x0_1 x6_1).f1), .int .i64 ((rd_T44 x0_1 x6_1).f2)] 44 (0, 0)) BK330.out hg (Kd.R_away HO_0.out (fun _ hk => hk.2))); replace HB := Aside0.mk ((by rw [hw]; exact below_set (below_set (below_set (HB.out) GB22.out) GB22.out) GB22.out : Below w0.heap.size w0 w27)); replace HK := Aside0.mk (Kept.of_grown (S := (fun k_ => P0_ k_)) hg (by repeat first | (with_reducible first | exact HK.out | apply Kept.drewN | apply Kept.drew | refine Kept.setCell ?_ (.inr GW25.out) _ | refine Kept.setCell ?_ (.inr GW26.out) _ | refine Kept.setCell ?_ (.inr GW330.out) _) | exact HK.out) (fun k_ e_ => (HO_0.out.1 k_ e_).1)); replace HO_0 := Aside0.mk (hp_); clear hg hw hp_))
      (try simp only [← hl0_1])
      go_roundg k1
      case measure => have := HK1.out; omega
      case rel => exact ⟨(y332), (wrap64 (x5_1 + 1)), (wrap64 (x6_1 + 1)), Xr, Xr, H', Xk1, ⟨by (try simp only [hl0_1]); (with_reducible repeat (first | apply Kd.R_alloc | apply Kd.R_drewN | apply Kd.R_drew)); exact Kd.R_mono HO_0.out (fun _ hk => hk.1)⟩, ⟨by (try simp only [hl0_1]); exact BK25.out⟩, ⟨by (try simp only [hl0_1]); exact BK26.out⟩, ⟨by repeat first | (with_reducible first | exact HK.out | apply Kept.drewN | apply Kept.drew | refine Kept.setCell ?_ (.inr GW25.out) _ | refine Kept.setCell ?_ (.inr GW26.out) _ | refine Kept.setCell ?_ (.inr GW330.out) _) | exact HK.out⟩, ⟨Xi⟩⟩
    ·obtain ⟨c28, H⟩ | ⟨c28, H⟩ := Xiu H
     ·have c28b0 := eq_true c28
      have c28b1 : decide (0 ≤ x5_1) = true := decide_eq_true c28
      clear c28
      obtain ⟨c29, H⟩ := Xif H
      have c29b0 := eq_true c29
      have c29b1 : decide (x5_1 ≤ (x0_1.length : Int)) = true := decide_eq_true c29
      clear c29
      obtain ⟨y333, hy333⟩ : ∃ y_ : List (S44), y_ = (x0_1.drop (x5_1 : Int).toNat) := ⟨_, rfl⟩
      replace H : (some ((x0_1.take (x5_1 : Int).toNat ++ List.replicate (x0_1.length - (x5_1 : Int).toNat) z44).take (x5_1 : Int).toNat)) = some r := by first | (rw [hy333]; with_reducible exact H) | (have H2_ := (Option.bind_some _ _).symm.trans H; rw [hy333]; with_reducible exact H2_) | (have H2_ := (Option.bind_some _ _).symm.trans H; with_reducible exact H2_) | with_reducible exact H | (rw [hy333]; exact H) | exact H
      have Ny333 := Aside0.mk hy333
      clear hy333
      obtain ⟨y337, hy337⟩ : ∃ y_ : List (S44), y_ = (x0_1.take (x5_1 : Int).toNat ++ List.replicate (x0_1.length - (x5_1 : Int).toNat) z44) := ⟨_, rfl⟩
      replace H : (some (y337.take (x5_1 : Int).toNat)) = some r := by first | (rw [hy337]; with_reducible exact H) | (have H2_ := (Option.bind_some _ _).symm.trans H; rw [hy337]; with_reducible exact H2_) | (have H2_ := (Option.bind_some _ _).symm.trans H; with_reducible exact H2_) | with_reducible exact H | (rw [hy337]; exact H) | exact H
      have Ny337 := Aside0.mk hy337
      clear hy337
      have c30b0 := eq_true (of_decide_eq_true Xa : x5_1 ≤ (x0_1.length : Int))
      obtain ⟨y338, hy338⟩ : ∃ y_ : List (S44), y_ = (y337.take (x5_1 : Int).toNat) := ⟨_, rfl⟩
      replace H : (some y338) = some r := by first | (rw [hy338]; with_reducible exact H) | (have H2_ := (Option.bind_some _ _).symm.trans H; rw [hy338]; with_reducible exact H2_) | (have H2_ := (Option.bind_some _ _).symm.trans H; with_reducible exact H2_) | with_reducible exact H | (rw [hy338]; exact H) | exact H
      have Ny338 := Aside0.mk hy338
      clear hy338
      obtain rfl := Option.some.inj H
      have q31 : (x5_1 : Int) ≤ ((x0_1.length : Int) : Int) := of_decide_eq_true Xa
      obtain ⟨i031, hi031, _, hsz31, _⟩ := info_parts info44
      have hroom31 : x0_1.length ≤ co5 := (Kd.R_reads' HO_0.out).2.1
      have hC31 : Kd.C k44 _ Ao5 x0_1.length x0_1 := (Kd.R_reads' HO_0.out).2.2
      have q031 : (0 : Int) ≤ (x5_1 : Int) := of_decide_eq_true Xa
      have hcut31 := cut_from (P := Try.prog) 28 44 .i64 Try.underlying28 hi031 3 hsz31 Ao5 x0_1.length co5 x5_1 q031 q31
      have hr31 := Kd.C_drop (m := (x5_1 : Int).toNat) (c := co5) hC31 (by omega) hroom31
      obtain ⟨A31, hA31⟩ : ∃ A1, A1 = (if co5 = (x5_1 : Int).toNat then Ao5 else (Ao5 : Option Addr).map (·.add ((x5_1 : Int).toNat * 3))) := ⟨_, rfl⟩
      obtain ⟨c31, hc31⟩ : ∃ c1, c1 = co5 - (x5_1 : Int).toNat := ⟨_, rfl⟩
      have hy31 : y333.length = x0_1.length - (x5_1 : Int).toNat := (by rw [Ny333.out, List.length_drop] <;> omega)
      rw [show (x0_1).drop (x5_1 : Int).toNat = y333 from Ny333.out.symm] at hr31
      replace hr31 : Kd.C k44 _ A31 y333.length y333 := (by rw [hA31]; exact hr31)
      rw [← hy31, ← hA31, ← hc31] at hcut31
      have HR336 := Aside0.mk hr31
      have HC336 := Aside0.mk (show y333.length ≤ c31 from by rw [hy31, hc31]; exact Nat.sub_le_sub_right hroom31 _)
      clear hr31 hC31 hroom31 hi031 hsz31 hc31
      have KY31 := Aside0.mk hy31
      have KA31 := Aside0.mk hA31
      clear hy31 hA31
      have KL31 := Aside0.mk (show (x5_1 : Int).toNat ≤ x0_1.length from by omega)
      replace q31 := eq_true q31
      go_wp2_with (first | ((with_reducible refine gate_builtin (b := .clear) (xs := #[.tmp 38]) rfl ?_); refine XW.R_clear k44 (w0 := w0) w0.heap.size rfl (.tmp 38) 28 44 rfl Try.underlying28 (.agg #[(.int .i64 0), (.int .i64 0), (.int .i64 0)]) 24 info44 rfl (by decide) z44 (fun _ => k44_mkM _ _ _ z44) (A0 := Ao5) (n := x0_1.length) (c := co5) (N := (x5_1 : Int).toNat) rfl ?hA ?hm (Xq HO_0) ?hN Xi (below_size Xi) ?_; (case hA => exact KA31.out); (case hm => exact KY31.out); (case hN => exact KL31.out); intro w32 ho hb hg; rw [← Ny337.out] at ho; replace BK25 := Aside0.mk (blk_grown (g := g1_0_) (o := .cells #[.int .i64 a1_0_0] 3 (0, 0)) BK25.out hg (Kd.R_ne HO_0.out BK25.out (by decide))); replace BK26 := Aside0.mk (blk_grown (g := g1_1_) (o := .cells #[.int .i64 a1_1_0] 3 (0, 0)) BK26.out hg (Kd.R_ne HO_0.out BK26.out (by decide))); replace HB := Aside0.mk (hb); replace HK := Aside0.mk (Kept.of_grown (S := (fun k_ => P0_ k_)) hg (by repeat first | (with_reducible first | exact HK.out | apply Kept.drewN | apply Kept.drew | refine Kept.setCell ?_ (.inr GW25.out) _ | refine Kept.setCell ?_ (.inr GW26.out) _) | exact HK.out) (fun k_ e_ => (HO_0.out.1 k_ e_))); replace HO_0 := Aside0.mk (ho); clear ho hb hg; have q33 : (x5_1 : Int) ≤ ((x0_1.length : Int) : Int) := of_decide_eq_true Xa; obtain ⟨i033, hi033, _, hsz33, _⟩ := info_parts info44; have hcut33 := cut_to (P := Try.prog) 28 44 .i64 Try.underlying28 hi033 Ao5 x0_1.length co5 x5_1 (of_decide_eq_true Xa) q33 (Kd.R_reads' HO_0.out).2.1; have hr33 := Kd.R_take (m := (x5_1 : Int).toNat) HO_0.out (by have hlx_ := (Kd.R_reads' HO_0.out).1; omega); have hy33 : y338.length = (x5_1 : Int).toNat := (by have hlx_ := (Kd.R_reads' HO_0.out).1; rw [Ny338.out, List.length_take]; omega); rw [← Ny338.out] at hr33; rw [← hy33] at hr33 hcut33; clear hy33 hi033 hsz33 HO_0; have HO340 := Aside0.mk hr33; clear hr33; replace q33 := eq_true q33))
      go_ret
      exact ⟨_, Xe, Xq HO340, Xi, by repeat first | (with_reducible first | exact HK.out | apply Kept.drewN | apply Kept.drew | refine Kept.setCell ?_ (.inr GW25.out) _ | refine Kept.setCell ?_ (.inr GW26.out) _) | exact HK.out⟩
     ·exact absurd H (by simp)

/-! ### impl_drop: function 71 -/
def impl_drop.f (k : Nat) (l0 : List (S44)) (a1 : Int) (a2 : Int) : Option ((List (S44))) := (slices_Clone_Hold.f l0).bind fun t343 => ((slices_DeleteFunc_impl_Hold_impl_Hold_at_impl_drop_1.f k t343 a1 a2).bind fun t346 => (some t346))
set_option maxHeartbeats 8000000 in
set_option maxRecDepth 100000 in
theorem impl_drop.calls (k : Nat) (A0 : Option Addr) (c0 : Nat) (l0 : List (S44)) (a1 : Int) (a2 : Int) (r : List (S44)) (w : World) (hr0 : Kd.C k44 w A0 l0.length l0) (hc0 : l0.length ≤ c0) (h : impl_drop.f k l0 a1 a2 = some r) :
  Calls Try.prog 71 #[.slice A0 l0.length c0, .int .i64 a1, .int .i64 a2] w fun e w' => ∃ v0_ : Value, e = .returned (v0_) ∧ Kd.R k44 44 w' w.heap.size (fun _ => True) v0_ r ∧ Below w.heap.size w w' := by
 have HR0 := Aside0.mk hr0
 have HC0 := Aside0.mk hc0
 clear hr0 hc0
 have HB := Aside0.mk (Below.refl w.heap.size w)
 have H : ((slices_Clone_Hold.f l0).bind fun t343 => ((slices_DeleteFunc_impl_Hold_impl_Hold_at_impl_drop_1.f k t343 a1 a2).bind fun t346 => (some t346))) = some r := h
 clear h
 obtain ⟨t343, A4, H⟩ := Xbi H
 (try dsimp only at H)
 obtain ⟨t346, A5, H⟩ := Xbi H
 (try dsimp only at H)
 obtain rfl := Option.some.inj H
 go_enter Try.func71, Try.ntmps71
 go_wp2_with (first | ((with_reducible refine gate_dst (N := 4) rfl ?_); refine Xbox 4 #[.int .i64 a1] 3 ?_; intro gb341 hg w6 hbox hb; have BK341 := Aside0.mk (hbox); have GE341 := Xge hg Xi; replace HB := Aside0.mk (below_step Xi hb); clear hb hbox hg) | ((with_reducible refine gate_dst (N := 5) rfl ?_); refine Xbox 5 #[.int .i64 a2] 3 ?_; intro gb342 hg w7 hbox hb; have BK342 := Aside0.mk (hbox); have GE342 := Xge hg Xi; replace HB := Aside0.mk (below_step Xi hb); have NB341_342 := Xnb hg BK341; have NB342_341 := Xns NB341_342; replace BK341 := Xbb BK341 hb; clear hb hbox hg) | ((with_reducible refine gate_callee (f := 145) rfl ?_); refine Xgo 8 Try.func145 #[.slice A0 l0.length c0] ?_; (with_reducible refine (slices_Clone_Hold.calls _ _ l0 t343 _ ?side1 ?side2 A4.out).mono ?_); (case side1 => exact Xc HR0); (case side2 => exact HC0.out); rintro e w8 ⟨v344, rfl, ho0, hb⟩; refine ⟨_, rfl, ?_⟩; have HO345 := Aside0.mk (Kd.R_lower ho0 (below_size Xi)); replace BK341 := Xbb BK341 hb; replace BK342 := Xbb BK342 hb; replace HB := Aside0.mk (below_step Xi hb); clear hb; (try clear ho0); obtain ⟨Ao9, co9, eo9⟩ := Kd.R_slice HO345.out; subst eo9) | ((with_reducible refine gate_callee (f := 144) rfl ?_); refine Xgo 10 Try.func144 #[.slice Ao9 t343.length co9, .func (.func 146) #[] #[.pointer (some ⟨gb341, 0, none⟩), .pointer (some ⟨gb342, 0, none⟩)]] ?_; (with_reducible refine (slices_DeleteFunc_impl_Hold_impl_Hold_at_impl_drop_1.calls k (fun k_ => some k_ = (.slice Ao9 t343.length co9 : Value).ownBlock) (.slice Ao9 t343.length co9) t343 gb341 gb342 a1 a2 t346 w _ ?side1 ?side2 ?side3 ?side4 A5.out).mono ?_); (case side1 => exact Xi); (case side2 => exact Kd.R_tight rfl HO345.out); (case side3 => exact BK341.out); (case side4 => exact BK342.out); rintro e w10 ⟨v347, rfl, ho0, hb, hkp⟩; refine ⟨_, rfl, ?_⟩; replace BK341 := Aside0.mk (blk_kept BK341.out hkp (fun hs_ => (fun e_ => (Kd.R_ne HO345.out BK341.out (by decide)) e_) hs_)); replace BK342 := Aside0.mk (blk_kept BK342.out hkp (fun hs_ => (fun e_ => (Kd.R_ne HO345.out BK342.out (by decide)) e_) hs_)); have HO348 := Aside0.mk (Kd.R_mono (ok' := fun k_ => True) ho0 (fun k_ hk_ => trivial)); replace HB := Aside0.mk (hb); clear HO345; (try clear hb); (try clear hkp); (try clear ho0)))
 go_ret
 exact ⟨_, Xe, Xq HO348, Xi⟩

end Go.Proofs.Ytahhgjkgfbppeaa.XA
