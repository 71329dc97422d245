/- Contracts of the program's functions: each Go function that is named below comes to what its Lean function says. Written by xprint.py (a program of this session's, over the kit's print). Conditions: each contract's own premises. -/
import Derived.Test.YtnanfenogmpemaaYPeaceful0
import Derived.Test.YtnanfenogmpemaaYPeaceful13
import Derived.Test.YtnanfenogmpemaaYPeaceful15
namespace Go.Proofs.Ytnanfenogmpemaa.XA
open Go.RowKit Go.Proofs.YtnanfenogmpemaaW.PrintWords Go.Proofs.YtnanfenogmpemaaW.PrintLast Go.Proofs.YtnanfenogmpemaaW.PrintMore XW
attribute [local go_sem] max2_int min2_int max_two min_two max_three min_three max_four min_four   -- for this text's walks alone
set_option linter.unusedVariables false
set_option linter.unusedSimpArgs false

/-! ### impl_intent: function 130 -/
def impl_intent.f (a0 : Int) : Option (Int) := if a0 = 0 then (some 0) else (if a0 = 1 then (some 1) else (if a0 = 3 then (some 1) else (some 2)))
set_option maxHeartbeats 8000000 in
set_option maxRecDepth 100000 in
theorem impl_intent.calls (a0 : Int) (r : Int) (w : World) (h : impl_intent.f a0 = some r) :
  Calls Try.prog 130 #[.int .i64 a0] w fun e w' => e = .returned (.int .i64 r) ∧ Drawn0 w w' := by
 have H : (if a0 = 0 then (some 0) else (if a0 = 1 then (some 1) else (if a0 = 3 then (some 1) else (some 2)))) = some r := h
 clear h
 obtain ⟨c2, H⟩ | ⟨c2, H⟩ := Xiu H
 ·have c2b0 : (a0 == 0) = true := beq_iff_eq.mpr c2
  have c2b1 : (a0 != 0) = false := bne_eq_false_iff_eq.mpr c2
  clear c2
  obtain rfl := Option.some.inj H
  go_enter Try.func130, Try.ntmps130
  go_wp2
  go_ret
  exact ⟨Xr, Xdr⟩
 ·have c2b0 : (a0 == 0) = false := beq_eq_false_iff_ne.mpr c2
  have c2b1 : (a0 != 0) = true := bne_iff_ne.mpr c2
  obtain ⟨c3, H⟩ | ⟨c3, H⟩ := Xiu H
  ·have c3b0 : (a0 == 1) = true := beq_iff_eq.mpr c3
   have c3b1 : (a0 != 1) = false := bne_eq_false_iff_eq.mpr c3
   clear c3
   obtain rfl := Option.some.inj H
   go_enter Try.func130, Try.ntmps130
   go_wp2
   go_ret
   exact ⟨Xr, Xdr⟩
  ·have c3b0 : (a0 == 1) = false := beq_eq_false_iff_ne.mpr c3
   have c3b1 : (a0 != 1) = true := bne_iff_ne.mpr c3
   obtain ⟨c4, H⟩ | ⟨c4, H⟩ := Xiu H
   ·have c4b0 : (a0 == 3) = true := beq_iff_eq.mpr c4
    have c4b1 : (a0 != 3) = false := bne_eq_false_iff_eq.mpr c4
    clear c4
    obtain rfl := Option.some.inj H
    go_enter Try.func130, Try.ntmps130
    go_wp2
    go_ret
    exact ⟨Xr, Xdr⟩
   ·have c4b0 : (a0 == 3) = false := beq_eq_false_iff_ne.mpr c4
    have c4b1 : (a0 != 3) = true := bne_iff_ne.mpr c4
    obtain rfl := Option.some.inj H
    go_enter Try.func130, Try.ntmps130
    go_wp2
    go_ret
    exact ⟨Xr, Xdr⟩

/-! ### impl_Doc_need: function 93 -/
def impl_Doc_need.f (k : Nat) (a0_0 : Int) (a0_1 : Int) (l0_2 : List (S92)) (a1_0 : Int) (a1_1 : Int) (a1_2 : Int) (a2 : Int) : Option (Int) := if a1_1 = a2 then (some a1_2) else ((impl_Doc_isIn.f k a0_0 a0_1 l0_2 a1_1 a2).bind fun t361 => (if t361 = true then ((impl_intent.f a1_2).bind fun t362 => (some t362)) else (some 0)))
set_option maxHeartbeats 8000000 in
set_option maxRecDepth 100000 in
theorem impl_Doc_need.calls (k : Nat) (g0_ : Nat) (a0_0 : Int) (a0_1 : Int) (A0_2 : Option Addr) (c0_2 : Nat) (l0_2 : List (S92)) (a1_0 : Int) (a1_1 : Int) (a1_2 : Int) (a2 : Int) (r : Int) (w : World) (hg0_ : w.heap[g0_]? = some (.cells #[.int .i64 a0_0, .int .i64 a0_1, .slice A0_2 l0_2.length c0_2] 33 (0, 0))) (hr0_2 : Kd.C k92 w A0_2 l0_2.length l0_2) (hc0_2 : l0_2.length ≤ c0_2) (h : impl_Doc_need.f k a0_0 a0_1 l0_2 a1_0 a1_1 a1_2 a2 = some r) :
  Calls Try.prog 93 #[.pointer (some ⟨g0_, 0, none⟩), .agg #[.int .i64 a1_0, .int .i64 a1_1, .int .i64 a1_2], .int .i64 a2] w fun e w' => e = .returned (.int .i64 r) ∧ Below w.heap.size w w' := by
 have hu55 := Try.underlying55
 have HR0_2 := Aside0.mk hr0_2
 have HC0_2 := Aside0.mk hc0_2
 clear hr0_2 hc0_2
 have BK0 := Aside0.mk hg0_
 clear hg0_
 have HB := Aside0.mk (Below.refl w.heap.size w)
 have H : (if a1_1 = a2 then (some a1_2) else ((impl_Doc_isIn.f k a0_0 a0_1 l0_2 a1_1 a2).bind fun t361 => (if t361 = true then ((impl_intent.f a1_2).bind fun t362 => (some t362)) else (some 0)))) = some r := h
 clear h
 have HC4 := Aside0.mk H
 clear H
 go_enter Try.func93, Try.ntmps93
 go_upto_if 7 with (first | ((with_reducible refine gate_dst (N := 4) rfl ?_); refine Xbox 4 #[.int .i64 a1_0, .int .i64 a1_1, .int .i64 a1_2] 55 ?_; intro gb360 hg w5 hbox hb; have BK360 := Aside0.mk (hbox); have GE360 := Xge hg Xi; replace HB := Aside0.mk (below_step Xi hb); have NB0_360 := Xnb hg BK0; have NB360_0 := Xns NB0_360; replace BK0 := Xbb BK0 hb; clear hb hbox hg; have hnb6 := NB360_0.out; have hnc6 := NB0_360.out; obtain ⟨hcz7_0, hcz7_1, hcz7_2⟩ := Xc3 BK360))
 have H := HC4.out
 clear HC4
 obtain ⟨c8, H⟩ | ⟨c8, H⟩ := Xiu H
 ·have c8b0 : (a1_1 == a2) = true := beq_iff_eq.mpr c8
  have c8b1 : (a1_1 != a2) = false := bne_eq_false_iff_eq.mpr c8
  clear c8
  (first | rw [c8b0] | (simp only [i64_w, i32_w]; rw [c8b0]) | skip)
  obtain rfl := Option.some.inj H
  have hnb9 := NB360_0.out
  have hnc9 := NB0_360.out
  obtain ⟨hcz10_0, hcz10_1, hcz10_2⟩ := Xc3 BK360
  go_wp2
  go_ret
  exact ⟨Xe, Xi⟩
 ·have c8b0 : (a1_1 == a2) = false := beq_eq_false_iff_ne.mpr c8
  have c8b1 : (a1_1 != a2) = true := bne_iff_ne.mpr c8
  (first | rw [c8b0] | (simp only [i64_w, i32_w]; rw [c8b0]) | skip)
  obtain ⟨t361, A11, H⟩ := Xbi H
  (try dsimp only at H)
  have HC12 := Aside0.mk H
  clear H
  have hnb13 := NB360_0.out
  have hnc13 := NB0_360.out
  obtain ⟨hcz14_0, hcz14_1, hcz14_2⟩ := Xc3 BK360
  go_upto_if 14 with (first | ((with_reducible refine gate_callee (f := 129) rfl ?_); refine Xgo 19 Try.func129 #[.pointer (some ⟨g0_, 0, none⟩), .int .i64 a1_1, .int .i64 a2] ?_; (with_reducible refine (impl_Doc_isIn.calls k g0_ a0_0 a0_1 A0_2 c0_2 l0_2 a1_1 a2 t361 _ ?side1 ?side2 ?side3 A11.out).mono ?_); (case side1 => exact BK0.out); (case side2 => exact Xc HR0_2); (case side3 => exact HC0_2.out); rintro e w15 ⟨rfl, hb⟩; refine ⟨_, rfl, ?_⟩; replace BK0 := Xbb BK0 hb; replace BK360 := Xbb BK360 hb; replace HB := Aside0.mk (below_step Xi hb); clear hb))
  have H := HC12.out
  clear HC12
  by_cases c16 : t361 = true
  ·subst c16
   (first | rw [if_pos rfl] at H | skip)
   obtain ⟨t362, A17, H⟩ := Xbi H
   (try dsimp only at H)
   obtain rfl := Option.some.inj H
   have hnb18 := NB360_0.out
   have hnc18 := NB0_360.out
   obtain ⟨hcz19_0, hcz19_1, hcz19_2⟩ := Xc3 BK360
   go_wp2_with (first | ((with_reducible refine gate_callee (f := 130) rfl ?_); refine Xgo 22 Try.func130 #[.int .i64 a1_2] ?_; (with_reducible refine (impl_intent.calls a1_2 t362 _ A17.out).mono ?_); rintro e w' ⟨rfl, ⟨nd, rfl⟩⟩; refine ⟨_, rfl, ?_⟩))
   go_ret
   exact ⟨Xe, Xi⟩
  ·replace c16 := Bool.eq_false_iff.mpr c16
   subst c16
   (first | rw [if_neg (show ¬ (false = true) by decide)] at H | skip)
   obtain rfl := Option.some.inj H
   go_wp2
   go_ret
   exact ⟨Xe, Xi⟩

/-! ### impl_Doc_mode: function 52 -/
def impl_Doc_mode.l0 : Nat → Int → Int → Int → List (S55) → Int → Int → Int → Int → List (S92) → Option (Int)
 | 0, _, _, _, _, _, _, _, _, _ => none
 | k + 1, x2, x3, x9, x12, x13, x14, x1000, x1001, x1002 => if x14 < x13 then (if 0 ≤ x14 then (if x14 < (x12.length : Int) then (if ((rd_T55 x12 x14).f0) = x2 then ((impl_Doc_need.f k x1000 x1001 x1002 ((rd_T55 x12 x14).f0) ((rd_T55 x12 x14).f1) ((rd_T55 x12 x14).f2) x3).bind fun t365 => ((impl_joined.f x9 t365).bind fun t366 => (impl_Doc_mode.l0 k x2 x3 t366 x12 x13 (wrap64 (x14 + 1)) x1000 x1001 x1002))) else (impl_Doc_mode.l0 k x2 x3 x9 x12 x13 (wrap64 (x14 + 1)) x1000 x1001 x1002)) else (none)) else (none)) else (some x9)
def impl_Doc_mode.f (k : Nat) (a0_0 : Int) (a0_1 : Int) (l0_2 : List (S92)) (l1 : List (S55)) (a2 : Int) (a3 : Int) : Option (Int) := impl_Doc_mode.l0 k a2 a3 0 l1 (l1.length : Int) 0 a0_0 a0_1 l0_2
set_option maxHeartbeats 8000000 in
set_option maxRecDepth 100000 in
theorem impl_Doc_mode.calls (k : Nat) (g0_ : Nat) (a0_0 : Int) (a0_1 : Int) (A0_2 : Option Addr) (c0_2 : Nat) (l0_2 : List (S92)) (A1 : Option Addr) (c1 : Nat) (l1 : List (S55)) (a2 : Int) (a3 : Int) (r : Int) (w : World) (hg0_ : w.heap[g0_]? = some (.cells #[.int .i64 a0_0, .int .i64 a0_1, .slice A0_2 l0_2.length c0_2] 33 (0, 0))) (hr0_2 : Kd.C k92 w A0_2 l0_2.length l0_2) (hc0_2 : l0_2.length ≤ c0_2) (hr1 : Kd.C k55 w A1 l1.length l1) (hc1 : l1.length ≤ c1) (h : impl_Doc_mode.f k a0_0 a0_1 l0_2 l1 a2 a3 = some r) :
  Calls Try.prog 52 #[.pointer (some ⟨g0_, 0, none⟩), .slice A1 l1.length c1, .int .i64 a2, .int .i64 a3] w fun e w' => e = .returned (.int .i64 r) ∧ Below w.heap.size w w' := by
 have hu55 := Try.underlying55
 have HR0_2 := Aside0.mk hr0_2
 have HC0_2 := Aside0.mk hc0_2
 clear hr0_2 hc0_2
 have HR1 := Aside0.mk hr1
 have HC1 := Aside0.mk hc1
 clear hr1 hc1
 have BK0 := Aside0.mk hg0_
 clear hg0_
 have HB := Aside0.mk (Below.refl w.heap.size w)
 have H : (impl_Doc_mode.l0 k a2 a3 0 l1 (l1.length : Int) 0 a0_0 a0_1 l0_2) = some r := h
 clear h
 have H' := Aside0.mk H
 clear H
 go_enter Try.func52, Try.ntmps52
 go_wp2
 go_loopg [9, 14] k (fun kq v9 v14 w' => ∃ (x9_1 : Int) (x14_1 : Int), v9 = .int .i64 x9_1 ∧ v14 = .int .i64 x14_1 ∧ Aside0 (impl_Doc_mode.l0 kq a2 a3 x9_1 l1 (l1.length : Int) x14_1 a0_0 a0_1 l0_2 = some r) ∧ Aside0 (kq ≤ k) ∧ Aside0 (w'.heap[g0_]? = some (.cells #[.int .i64 a0_0, .int .i64 a0_1, (.slice A0_2 l0_2.length c0_2)] 33 (0, 0))) ∧ Aside0 (Below w.heap.size w w'))
 case atStart => exact ⟨(0), (0), Xr, Xr, H', Xkr, BK0, ⟨Xi⟩⟩
 case round =>
  clear H'
  (try clear c1)
  obtain ⟨x9_1, x14_1, rfl, rfl, HA, HK1, BK0, HB⟩ := hrel
  cases gk with
  | zero => cases HA.out
  | succ k1 =>
   have H := HA.out
   clear HA
   simp only [impl_Doc_mode.l0] at H
   obtain ⟨c5b0, H⟩ | ⟨c5b0, H⟩ := Xit H
   ·obtain ⟨c6b0, H⟩ := Xid H
    obtain ⟨c7b0, H⟩ := Xid H
    have HC8 := Aside0.mk H
    clear H
    obtain ⟨ad363, e363, p363, q363, hx363_0, hx363_1, hx363_2⟩ := at_B55 HR1 x14_1 Xa Xa HB
    cases e363
    go_upto_if 21 with (first | ((with_reducible refine gate_dst (N := 11) rfl ?_); refine Xbox 11 #[.int .i64 0, .int .i64 0, .int .i64 0] 55 ?_; intro gb364 hg w9 hbox hb; have BK364 := Aside0.mk (hbox); have GE364 := Xge hg Xi; replace HB := Aside0.mk (below_step Xi hb); have NB0_364 := Xnb hg BK0; have NB364_0 := Xns NB0_364; replace BK0 := Xbb BK0 hb; clear hb hbox hg; have hnb10 := NB364_0.out; have hnc10 := NB0_364.out; obtain ⟨hcz11_0, hcz11_1, hcz11_2⟩ := Xc3 BK364; obtain ⟨hfz11_0, hfz11_1, hfz11_2⟩ := Xf3 BK364) | ((with_reducible refine gate_store (t := 55) (p := 11) rfl ?_); refine store_event (t := 55) (p := 11) (v := ?vo_w12) (w1 := (((w9.setCell ⟨gb364, 0, none⟩ (.int .i64 ((rd_T55 l1 x14_1).f0))).setCell ⟨gb364, 1, none⟩ (.int .i64 ((rd_T55 l1 x14_1).f1))).setCell ⟨gb364, 2, none⟩ (.int .i64 ((rd_T55 l1 x14_1).f2)))) ?hg ?ho ?hn ?hr ?_; (case ho => rfl); (case hg => rfl); (case hn => rfl); (case hr => first | (go_simp; done) | (go_simp; rfl)); intro w12 hw; have n0_ : Aside0 (w12.heap[g0_]? = some (.cells #[.int .i64 a0_0, .int .i64 a0_1, .slice A0_2 l0_2.length c0_2] 33 (0, 0))) := ⟨(by rw [hw]; exact (by (with_reducible repeat (first | refine blk_drewN ?_ _ | refine blk_drew ?_ | refine blk_alloc ?_ _)); refine blk_far ?_ NB0_364.out _; (with_reducible repeat (first | refine blk_drewN ?_ _ | refine blk_drew ?_ | refine blk_alloc ?_ _)); refine blk_far ?_ NB0_364.out _; (with_reducible repeat (first | refine blk_drewN ?_ _ | refine blk_drew ?_ | refine blk_alloc ?_ _)); refine blk_far ?_ NB0_364.out _; (with_reducible repeat (first | refine blk_drewN ?_ _ | refine blk_drew ?_ | refine blk_alloc ?_ _)); exact BK0.out))⟩; have n1_ : Aside0 (w12.heap[gb364]? = some (.cells #[.int .i64 ((rd_T55 l1 x14_1).f0), .int .i64 ((rd_T55 l1 x14_1).f1), .int .i64 ((rd_T55 l1 x14_1).f2)] 55 (0, 0))) := ⟨(by rw [hw]; exact (by (with_reducible repeat (first | refine blk_drewN ?_ _ | refine blk_drew ?_ | refine blk_alloc ?_ _)); refine blk_put (cs := #[.int .i64 ((rd_T55 l1 x14_1).f0), .int .i64 ((rd_T55 l1 x14_1).f1), .int .i64 0]) ?_ 2 _ rfl; (with_reducible repeat (first | refine blk_drewN ?_ _ | refine blk_drew ?_ | refine blk_alloc ?_ _)); refine blk_put (cs := #[.int .i64 ((rd_T55 l1 x14_1).f0), .int .i64 0, .int .i64 0]) ?_ 1 _ rfl; (with_reducible repeat (first | refine blk_drewN ?_ _ | refine blk_drew ?_ | refine blk_alloc ?_ _)); refine blk_put (cs := #[.int .i64 0, .int .i64 0, .int .i64 0]) ?_ 0 _ rfl; (with_reducible repeat (first | refine blk_drewN ?_ _ | refine blk_drew ?_ | refine blk_alloc ?_ _)); exact BK364.out))⟩; have n2_ : Aside0 (Below w.heap.size w w12) := ⟨(by rw [hw]; exact Xi)⟩; clear hw; clear BK0; clear BK364; clear HB; have BK0 := n0_; have BK364 := n1_; have HB := n2_; clear n0_ n1_ n2_; obtain ⟨hcz13_0, hcz13_1, hcz13_2⟩ := Xc3 BK364; obtain ⟨hfz13_0, hfz13_1, hfz13_2⟩ := Xf3 BK364))
    have H := HC8.out
    clear HC8
    obtain ⟨c14, H⟩ | ⟨c14, H⟩ := Xiu H
    ·have c14b0 : (((rd_T55 l1 x14_1).f0) == a2) = true := beq_iff_eq.mpr c14
     have c14b1 : (((rd_T55 l1 x14_1).f0) != a2) = false := bne_eq_false_iff_eq.mpr c14
     clear c14
     (first | rw [c14b0] | (simp only [i64_w, i32_w]; rw [c14b0]) | skip)
     obtain ⟨t365, A15, H⟩ := Xbi H
     (try dsimp only at H)
     obtain ⟨t366, A16, H⟩ := Xbi H
     (try dsimp only at H)
     have H' := Aside0.mk H
     clear H
     have hnb17 := NB364_0.out
     have hnc17 := NB0_364.out
     obtain ⟨hcz18_0, hcz18_1, hcz18_2⟩ := Xc3 BK364
     obtain ⟨hfz18_0, hfz18_1, hfz18_2⟩ := Xf3 BK364
     go_wp2_with (first | ((with_reducible refine gate_callee (f := 93) rfl ?_); refine Xgo 26 Try.func93 #[.pointer (some ⟨g0_, 0, none⟩), .agg #[.int .i64 ((rd_T55 l1 x14_1).f0), .int .i64 ((rd_T55 l1 x14_1).f1), .int .i64 ((rd_T55 l1 x14_1).f2)], .int .i64 a3] ?_; (with_reducible refine (impl_Doc_need.calls k1 g0_ a0_0 a0_1 A0_2 c0_2 l0_2 ((rd_T55 l1 x14_1).f0) ((rd_T55 l1 x14_1).f1) ((rd_T55 l1 x14_1).f2) a3 t365 _ ?side1 ?side2 ?side3 A15.out).mono ?_); (case side1 => exact BK0.out); (case side2 => exact Xc HR0_2); (case side3 => exact HC0_2.out); rintro e w19 ⟨rfl, hb⟩; refine ⟨_, rfl, ?_⟩; replace BK0 := Xbb BK0 hb; replace BK364 := Xbb BK364 hb; replace HB := Aside0.mk (below_step Xi hb); clear hb) | ((with_reducible refine gate_callee (f := 90) rfl ?_); refine Xgo 27 Try.func90 #[.int .i64 x9_1, .int .i64 t365] ?_; (with_reducible refine (impl_joined.calls x9_1 t365 t366 _ A16.out).mono ?_); rintro e w20 ⟨rfl, hb⟩; refine ⟨_, rfl, ?_⟩; replace BK0 := Xbb BK0 hb; replace BK364 := Xbb BK364 hb; replace HB := Aside0.mk (below_step Xi hb); clear hb))
     go_roundg k1
     case measure => have := HK1.out; omega
     case rel => exact ⟨(t366), (wrap64 (x14_1 + 1)), Xr, Xr, H', Xk1, BK0, ⟨Xi⟩⟩
    ·have c14b0 : (((rd_T55 l1 x14_1).f0) == a2) = false := beq_eq_false_iff_ne.mpr c14
     have c14b1 : (((rd_T55 l1 x14_1).f0) != a2) = true := bne_iff_ne.mpr c14
     (first | rw [c14b0] | (simp only [i64_w, i32_w]; rw [c14b0]) | skip)
     have H' := Aside0.mk H
     clear H
     go_wp2
     go_roundg k1
     case measure => have := HK1.out; omega
     case rel => exact ⟨(x9_1), (wrap64 (x14_1 + 1)), Xr, Xr, H', Xk1, BK0, ⟨Xi⟩⟩
   ·obtain rfl := Option.some.inj H
    go_wp2
    go_ret
    exact ⟨Xe, Xi⟩

/-! ### cmp_Less_int: function 164 -/
def cmp_Less_int.f (a0 : Int) (a1 : Int) : Option (Bool) := (cmp_isNaN_int.f a0).bind fun t367 => (if t367 = true then ((cmp_isNaN_int.f a1).bind fun t368 => (if t368 = true then (some (decide (a0 < a1))) else (some true))) else (some (decide (a0 < a1))))
set_option maxHeartbeats 8000000 in
set_option maxRecDepth 100000 in
theorem cmp_Less_int.calls (a0 : Int) (a1 : Int) (r : Bool) (w : World) (h : cmp_Less_int.f a0 a1 = some r) :
  Calls Try.prog 164 #[.int .i64 a0, .int .i64 a1] w fun e w' => e = .returned (.bool r) ∧ Drawn0 w w' := by
 have H : ((cmp_isNaN_int.f a0).bind fun t367 => (if t367 = true then ((cmp_isNaN_int.f a1).bind fun t368 => (if t368 = true then (some (decide (a0 < a1))) else (some true))) else (some (decide (a0 < a1))))) = some r := h
 clear h
 obtain ⟨t367, A3, H⟩ := Xbi H
 (try dsimp only at H)
 by_cases c4 : t367 = true
 ·subst c4
  (first | rw [if_pos rfl] at H | skip)
  obtain ⟨t368, A5, H⟩ := Xbi H
  (try dsimp only at H)
  by_cases c6 : t368 = true
  ·subst c6
   (first | rw [if_pos rfl] at H | skip)
   obtain rfl := Option.some.inj H
   go_enter Try.func164, Try.ntmps164
   go_wp2_with (first | ((with_reducible refine gate_callee (f := 147) rfl ?_); refine Xgo 6 Try.func147 #[.int .i64 a0] ?_; (with_reducible refine (cmp_isNaN_int.calls a0 true _ A3.out).mono ?_); rintro e w' ⟨rfl, ⟨nd, rfl⟩⟩; refine ⟨_, rfl, ?_⟩) | (go_at_call 147; (with_reducible refine (cmp_isNaN_int.calls a1 true _ A5.out).mono ?_); rintro e w' ⟨rfl, ⟨nd, rfl⟩⟩))
   go_ret
   exact ⟨Xr, Xdr⟩
  ·replace c6 := Bool.eq_false_iff.mpr c6
   subst c6
   (first | rw [if_neg (show ¬ (false = true) by decide)] at H | skip)
   obtain rfl := Option.some.inj H
   go_enter Try.func164, Try.ntmps164
   go_wp2_with (first | ((with_reducible refine gate_callee (f := 147) rfl ?_); refine Xgo 6 Try.func147 #[.int .i64 a0] ?_; (with_reducible refine (cmp_isNaN_int.calls a0 true _ A3.out).mono ?_); rintro e w' ⟨rfl, ⟨nd, rfl⟩⟩; refine ⟨_, rfl, ?_⟩) | (go_at_call 147; (with_reducible refine (cmp_isNaN_int.calls a1 false _ A5.out).mono ?_); rintro e w' ⟨rfl, ⟨nd, rfl⟩⟩))
   go_ret
   exact ⟨Xr, Xdr⟩
 ·replace c4 := Bool.eq_false_iff.mpr c4
  subst c4
  (first | rw [if_neg (show ¬ (false = true) by decide)] at H | skip)
  obtain rfl := Option.some.inj H
  go_enter Try.func164, Try.ntmps164
  go_wp2_with (first | ((with_reducible refine gate_callee (f := 147) rfl ?_); refine Xgo 6 Try.func147 #[.int .i64 a0] ?_; (with_reducible refine (cmp_isNaN_int.calls a0 false _ A3.out).mono ?_); rintro e w' ⟨rfl, ⟨nd, rfl⟩⟩; refine ⟨_, rfl, ?_⟩))
  go_ret
  exact ⟨Xr, Xdr⟩

end Go.Proofs.Ytnanfenogmpemaa.XA
