/- Words and contracts of this claim, put together out of several texts by a program of this session's. Conditions: each theorem's own premises. -/
import Derived.Test.YthkbgbkglgmpoaaZ1
import Derived.Test.YthkbgbkglgmpoaaZ3
import Derived.Test.YthkbgbkglgmpoaaZ4
import Derived.Test.YthkbgbkglgmpoaaZ5
import Derived.Lib.BufferMore
namespace Go.Proofs.Ythkbgbkglgmpoaa.XA
open Go.RowKit Go.Proofs.YthkbgbkglgmpoaaW.PrintWords Go.Proofs.YthkbgbkglgmpoaaW.PrintLast Go.Proofs.YthkbgbkglgmpoaaW.PrintMore XW
attribute [local go_sem] max2_int min2_int max_two min_two max_three min_three max_four min_four   -- for this text's walks alone
set_option linter.unusedVariables false
set_option linter.unusedSimpArgs false
set_option maxHeartbeats 8000000
set_option maxRecDepth 100000
mutual
def impl_DocOK.j0 : Nat → Bool → Int → Int → List (S103) → Option (Bool)
 | 0, _, _, _, _ => none
 | k + 1, x20, x389000, x389001, x389002 => if x20 = true then (some false) else (impl_DocOK.l0 k x389002 (x389002.length : Int) 0 x389000 x389001 x389002)
def impl_DocOK.l0 : Nat → List (S103) → Int → Int → Int → Int → List (S103) → Option (Bool)
 | 0, _, _, _, _, _, _ => none
 | k + 1, x22, x23, x24, x389000, x389001, x389002 => if x24 < x23 then (if 0 ≤ x24 then (if x24 < (x22.length : Int) then ((impl_within.f ((rd_T103 x22 x24).f0) 1 (wrap64 (x389001 - 1))).bind fun t393 => (if t393 = true then (if x24 > 0 then (if 0 ≤ (wrap64 (x24 - 1)) then (if (wrap64 (x24 - 1)) < (x389002.length : Int) then (if ((rd_T103 x389002 (wrap64 (x24 - 1))).f0) ≥ ((rd_T103 x22 x24).f0) then (impl_DocOK.j2 k x22 x23 x24 true x389000 x389001 x389002) else ((impl_within.f ((rd_T103 x22 x24).f1) 1 8).bind fun t395 => (if t395 = true then ((impl_within.f ((rd_T103 x22 x24).f2) 0 99).bind fun t396 => (if t396 = true then (if (((rd_T103 x22 x24).f3).size : Int) > 20 then (impl_DocOK.j2 k x22 x23 x24 true x389000 x389001 x389002) else (impl_DocOK.j2 k x22 x23 x24 (decide ((((rd_T103 x22 x24).f4).length : Int) > 12)) x389000 x389001 x389002)) else (impl_DocOK.j2 k x22 x23 x24 true x389000 x389001 x389002))) else (impl_DocOK.j2 k x22 x23 x24 true x389000 x389001 x389002)))) else (none)) else (none)) else ((impl_within.f ((rd_T103 x22 x24).f1) 1 8).bind fun t397 => (if t397 = true then ((impl_within.f ((rd_T103 x22 x24).f2) 0 99).bind fun t398 => (if t398 = true then (if (((rd_T103 x22 x24).f3).size : Int) > 20 then (impl_DocOK.j2 k x22 x23 x24 true x389000 x389001 x389002) else (impl_DocOK.j2 k x22 x23 x24 (decide ((((rd_T103 x22 x24).f4).length : Int) > 12)) x389000 x389001 x389002)) else (impl_DocOK.j2 k x22 x23 x24 true x389000 x389001 x389002))) else (impl_DocOK.j2 k x22 x23 x24 true x389000 x389001 x389002)))) else (impl_DocOK.j2 k x22 x23 x24 true x389000 x389001 x389002))) else (none)) else (none)) else (impl_DocOK.l1 k x389002 (x389002.length : Int) 0 x389000 x389001 x389002 ([] : List (Int × Bool)))
def impl_DocOK.j2 : Nat → List (S103) → Int → Int → Bool → Int → Int → List (S103) → Option (Bool)
 | 0, _, _, _, _, _, _, _ => none
 | k + 1, x22, x23, x24, x75, x389000, x389001, x389002 => if x75 = true then (some false) else (impl_DocOK.l0 k x22 x23 (wrap64 (x24 + 1)) x389000 x389001 x389002)
def impl_DocOK.l1 : Nat → List (S103) → Int → Int → Int → Int → List (S103) → List (Int × Bool) → Option (Bool)
 | 0, _, _, _, _, _, _, _ => none
 | k + 1, x79, x80, x81, x389000, x389001, x389002, x400000 => if x81 < x80 then (if 0 ≤ x81 then (if x81 < (x79.length : Int) then (impl_DocOK.l2 k x79 x80 x81 ((rd_T103 x79 x81).f4) (((rd_T103 x79 x81).f4).length : Int) 0 x389000 x389001 x389002 x400000) else (none)) else (none)) else ((impl_Doc_has.f k x389000 x389001 x389002 x389000).bind fun t404 => (if t404 = true then (if (x400000.length : Int) = (wrap64 ((x389002.length : Int) - 1)) then ((impl_Doc_isDeep.f k x389000 x389001 x389002).bind fun t405 => (impl_DocOK.j6 k t405 x389000 x389001 x389002)) else (impl_DocOK.j6 k true x389000 x389001 x389002)) else (impl_DocOK.j6 k true x389000 x389001 x389002)))
def impl_DocOK.l2 : Nat → List (S103) → Int → Int → List Int → Int → Int → Int → Int → List (S103) → List (Int × Bool) → Option (Bool)
 | 0, _, _, _, _, _, _, _, _, _, _ => none
 | k + 1, x79, x80, x81, x86, x87, x88, x389000, x389001, x389002, x400000 => if x88 < x87 then (if 0 ≤ x88 then (if x88 < (x86.length : Int) then (if XM.get false x400000 (rd x86 x88) = true then (impl_DocOK.j5 k (rd x86 x88) x79 x80 x81 x86 x87 x88 true x389000 x389001 x389002 x400000) else (if (rd x86 x88) = x389000 then (impl_DocOK.j5 k (rd x86 x88) x79 x80 x81 x86 x87 x88 true x389000 x389001 x389002 x400000) else ((impl_Doc_has.f k x389000 x389001 x389002 (rd x86 x88)).bind fun t403 => (impl_DocOK.j5 k (rd x86 x88) x79 x80 x81 x86 x87 x88 (!t403) x389000 x389001 x389002 x400000)))) else (none)) else (none)) else (impl_DocOK.l1 k x79 x80 (wrap64 (x81 + 1)) x389000 x389001 x389002 x400000)
def impl_DocOK.j5 : Nat → Int → List (S103) → Int → Int → List Int → Int → Int → Bool → Int → Int → List (S103) → List (Int × Bool) → Option (Bool)
 | 0, _, _, _, _, _, _, _, _, _, _, _, _ => none
 | k + 1, x9, x79, x80, x81, x86, x87, x88, x105, x389000, x389001, x389002, x400000 => if x105 = true then (some false) else (impl_DocOK.l2 k x79 x80 x81 x86 x87 (wrap64 (x88 + 1)) x389000 x389001 x389002 (XM.put x400000 x9 true))
def impl_DocOK.j6 : Nat → Bool → Int → Int → List (S103) → Option (Bool)
 | 0, _, _, _, _ => none
 | k + 1, x125, x389000, x389001, x389002 => if x125 = true then (some false) else ((impl_Doc_order.f k x389000 x389001 x389002 ([] : List Int) x389000).bind fun t406 => (some ((t406.length : Int) == (x389002.length : Int))))
end
def impl_DocOK.f (k : Nat) (a0_0 : Int) (a0_1 : Int) (l0_2 : List (S103)) : Option (Bool) := (impl_within.f (l0_2.length : Int) 1 40).bind fun t389 => (if t389 = true then ((impl_within.f a0_1 2 999999).bind fun t390 => (impl_DocOK.j0 k (!t390) a0_0 a0_1 l0_2)) else (impl_DocOK.j0 k true a0_0 a0_1 l0_2))
def impl_DocOK.T23 : Bool × List (List Nat × List Nat) := (true, [([], []), ([0], [0]), ([1], [1]), ([2], [2]), ([], []), ([4], [4]), ([5], [5]), ([3, 6], [3, 6]), ([7, 2, 0, 1, 2, 3, 4, 5, 6, 7], [7])])
def impl_DocOK.B23 : List Nat := [0, 1, 3, 7, 0, 16, 48, 127, 255]
theorem impl_DocOK.tab23 : rtab .any (opsOf Try.f88 23) = impl_DocOK.T23 := by kernel_rfl
theorem impl_DocOK.bits23 : waitsOk impl_DocOK.T23.2 impl_DocOK.B23 = true := by kernel_rfl
theorem impl_DocOK.calls (k : Nat) (a0_0 : Int) (a0_1 : Int) (A0_2 : Option Addr) (c0_2 : Nat) (l0_2 : List (S103)) (r : Bool) (w : World) (hr0_2 : Kd.C k103 w A0_2 l0_2.length l0_2) (hc0_2 : l0_2.length ≤ c0_2) (h : impl_DocOK.f k a0_0 a0_1 l0_2 = some r) :
  Calls Try.prog 88 #[.agg #[.int .i64 a0_0, .int .i64 a0_1, .slice A0_2 l0_2.length c0_2]] w fun e w' => e = .returned (.bool r) ∧ Below w.heap.size w w' := by
 have hu65 := Try.underlying65
 have hu103 := Try.underlying103
 have HR0_2 := Aside0.mk hr0_2
 have HC0_2 := Aside0.mk hc0_2
 clear hr0_2 hc0_2
 have HB := Aside0.mk (Below.refl w.heap.size w)
 have H : ((impl_within.f (l0_2.length : Int) 1 40).bind fun t389 => (if t389 = true then ((impl_within.f a0_1 2 999999).bind fun t390 => (impl_DocOK.j0 k (!t390) a0_0 a0_1 l0_2)) else (impl_DocOK.j0 k true a0_0 a0_1 l0_2))) = some r := h
 clear h
 have HC2 := Aside0.mk H
 clear H
 go_enter Try.func88, Try.ntmps88
 go_upto_region 1 with (first | ((with_reducible refine gate_dst (N := 1) rfl ?_); (try (refine gate_guard (by rfl) ?_; dsimp only)); refine Xbox 1 #[.int .i64 a0_0, .int .i64 a0_1, .slice A0_2 l0_2.length c0_2] 65 ?_; intro gb388 hg w3 hbox hb; have BK388 := Aside0.mk (hbox); have GE388 := Xge hg Xi; replace HB := Aside0.mk (below_step Xi hb); clear hb hbox hg))
 (try simp only [XW.q0, XW.q1, XW.q2])
 go_cut [20] (fun v20 wc => ∃ (kq : Nat) (x20_1 : Bool), v20 = .bool x20_1 ∧ Aside0 (impl_DocOK.j0 kq x20_1 a0_0 a0_1 l0_2 = some r) ∧ Aside0 (kq ≤ k) ∧ Aside0 (wc.heap[gb388]? = some (.cells #[.int .i64 a0_0, .int .i64 a0_1, (.slice A0_2 l0_2.length c0_2)] 65 (0, 0))) ∧ Aside0 (Below w.heap.size w wc))
 case first =>
  have H := HC2.out
  clear HC2
  obtain ⟨t389, A4, H⟩ := Xbi H
  (try dsimp only at H)
  by_cases c5 : t389 = true
  ·subst c5
   (first | rw [if_pos rfl] at H | skip)
   obtain ⟨t390, A6, H⟩ := Xbi H
   (try dsimp only at H)
   have H' := Aside0.mk H
   clear H
   obtain ⟨hcz7_0, hcz7_1, hcz7_2⟩ := Xc3 BK388
   obtain ⟨hfz7_0, hfz7_1, hfz7_2⟩ := Xf3 BK388
   go_wp2_with (first | ((with_reducible refine gate_callee (f := 107) rfl ?_); refine Xgo 13 Try.func107 #[.int .i64 (l0_2.length : Int), .int .i64 1, .int .i64 40] ?_; (with_reducible refine (impl_within.calls (l0_2.length : Int) 1 40 true _ A4.out).mono ?_); rintro e w' ⟨rfl, ⟨nd, rfl⟩⟩; refine ⟨_, rfl, ?_⟩) | (go_at_call 107; (with_reducible refine (impl_within.calls a0_1 2 999999 t390 _ A6.out).mono ?_); rintro e w' ⟨rfl, ⟨nd, rfl⟩⟩; (try exact Xdd)))
   go_meet
   case rel => exact ⟨_, (!t390), Xr, H', Xko, BK388, ⟨Xi⟩⟩
  replace c5 := Bool.eq_false_iff.mpr c5
  subst c5
  (first | rw [if_neg (show ¬ (false = true) by decide)] at H | skip)
  have H' := Aside0.mk H
  clear H
  obtain ⟨hcz8_0, hcz8_1, hcz8_2⟩ := Xc3 BK388
  obtain ⟨hfz8_0, hfz8_1, hfz8_2⟩ := Xf3 BK388
  go_wp2_with (first | ((with_reducible refine gate_callee (f := 107) rfl ?_); refine Xgo 13 Try.func107 #[.int .i64 (l0_2.length : Int), .int .i64 1, .int .i64 40] ?_; (with_reducible refine (impl_within.calls (l0_2.length : Int) 1 40 false _ A4.out).mono ?_); rintro e w' ⟨rfl, ⟨nd, rfl⟩⟩; refine ⟨_, rfl, ?_⟩))
  go_meet
  case rel => exact ⟨_, (true), Xr, H', Xko, BK388, ⟨Xi⟩⟩
 clear HC2
 obtain ⟨kq, x20_1, rfl, HA, HJ1, BK388, HB⟩ := hcut
 cases kq with | zero => cases HA.out | succ kj1 => ?_
 have H := HA.out
 clear HA
 simp only [impl_DocOK.j0] at H
 by_cases c9 : x20_1 = true
 ·subst c9
  (first | rw [if_pos rfl] at H | skip)
  obtain rfl := Option.some.inj H
  go_wp2
  go_ret
  exact ⟨Xe, Xi⟩
 replace c9 := Bool.eq_false_iff.mpr c9
 subst c9
 (first | rw [if_neg (show ¬ (false = true) by decide)] at H | skip)
 have H' := Aside0.mk H
 clear H
 obtain ⟨hcz10_0, hcz10_1, hcz10_2⟩ := Xc3 BK388
 obtain ⟨hfz10_0, hfz10_1, hfz10_2⟩ := Xf3 BK388
 go_wp2
 go_loopg [24] kj1 (fun kq v24 w' => ∃ (x24_2 : Int), v24 = .int .i64 x24_2 ∧ Aside0 (impl_DocOK.l0 kq l0_2 (l0_2.length : Int) x24_2 a0_0 a0_1 l0_2 = some r) ∧ Aside0 (kq ≤ kj1) ∧ Aside0 (w'.heap[gb388]? = some (.cells #[.int .i64 a0_0, .int .i64 a0_1, (.slice A0_2 l0_2.length c0_2)] 65 (0, 0))) ∧ Aside0 (Below w.heap.size w w'))
 case atStart => exact ⟨(0), Xr, H', Xkr, BK388, ⟨Xi⟩⟩
 clear H'
 (try clear c9); (try clear hcz10_0); (try clear hcz10_1); (try clear hcz10_2); (try clear hfz10_0); (try clear hfz10_1); (try clear hfz10_2)
 obtain ⟨x24_2, rfl, HA, HK2, BK388, HB⟩ := hrel
 cases gk with | zero => cases HA.out | succ k2 => ?_
 have H := HA.out
 clear HA
 simp only [impl_DocOK.l0] at H
 obtain ⟨c11b0, H⟩ | ⟨c11b0, H⟩ := Xit H
 ·obtain ⟨c12b0, H⟩ := Xid H
  obtain ⟨c13b0, H⟩ := Xid H
  have HC14 := Aside0.mk H
  clear H
  obtain ⟨ad391, A391_4, c391_4, e391, p391, q391, hx391_0, hx391_1, hx391_2, hx391_3, hx391_4, HC391_4, HR391_4⟩ := at_B103 HR0_2 x24_2 Xa Xa HB
  cases e391
  go_upto_region 6 with (first | ((with_reducible refine gate_dst (N := 4) rfl ?_); (try (refine gate_guard (by rfl) ?_; dsimp only)); refine Xbox 4 #[.int .i64 0, .int .i64 0, .int .i64 0, .string (⟨#[]⟩ : ByteArray), .slice none 0 0] 103 ?_; intro gb392 hg w15 hbox hb; have BK392 := Aside0.mk (hbox); have GE392 := Xge hg Xi; replace HB := Aside0.mk (below_step Xi hb); have NB388_392 := Xnb hg BK388; have NB392_388 := Xns NB388_392; replace BK388 := Xbb BK388 hb; clear hb hbox hg; have hnb16 := NB392_388.out; have hnc16 := NB388_392.out; obtain ⟨hcz17_0, hcz17_1, hcz17_2, hcz17_3, hcz17_4⟩ := Xc5 BK392; obtain ⟨hfz17_0, hfz17_1, hfz17_2, hfz17_3, hfz17_4⟩ := Xf5 BK392) | ((with_reducible refine gate_store (t := 103) (p := 4) rfl ?_); refine store_event (t := 103) (p := 4) (v := ?vo_w18) (w1 := (((((w15.setCell ⟨gb392, 0, none⟩ (.int .i64 ((rd_T103 l0_2 x24_2).f0))).setCell ⟨gb392, 1, none⟩ (.int .i64 ((rd_T103 l0_2 x24_2).f1))).setCell ⟨gb392, 2, none⟩ (.int .i64 ((rd_T103 l0_2 x24_2).f2))).setCell ⟨gb392, 3, none⟩ (.string ((rd_T103 l0_2 x24_2).f3))).setCell ⟨gb392, 4, none⟩ (.slice A391_4 ((rd_T103 l0_2 x24_2).f4).length c391_4))) ?hg ?ho ?hn ?hr ?_; (case ho => rfl); (case hg => rfl); (case hn => rfl); (case hr => first | (go_simp; done) | (go_simp; rfl)); intro w18 hw; have n0_ : Aside0 (w18.heap[gb388]? = some (.cells #[.int .i64 a0_0, .int .i64 a0_1, .slice (some ad391) l0_2.length c0_2] 65 (0, 0))) := ⟨(by rw [hw]; exact (by (with_reducible repeat (first | refine blk_drewN ?_ _ | refine blk_drew ?_ | refine blk_alloc ?_ _)); refine blk_far ?_ NB388_392.out _; (with_reducible repeat (first | refine blk_drewN ?_ _ | refine blk_drew ?_ | refine blk_alloc ?_ _)); refine blk_far ?_ NB388_392.out _; (with_reducible repeat (first | refine blk_drewN ?_ _ | refine blk_drew ?_ | refine blk_alloc ?_ _)); refine blk_far ?_ NB388_392.out _; (with_reducible repeat (first | refine blk_drewN ?_ _ | refine blk_drew ?_ | refine blk_alloc ?_ _)); refine blk_far ?_ NB388_392.out _; (with_reducible repeat (first | refine blk_drewN ?_ _ | refine blk_drew ?_ | refine blk_alloc ?_ _)); refine blk_far ?_ NB388_392.out _; (with_reducible repeat (first | refine blk_drewN ?_ _ | refine blk_drew ?_ | refine blk_alloc ?_ _)); exact BK388.out))⟩; have n1_ : Aside0 (w18.heap[gb392]? = some (.cells #[.int .i64 ((rd_T103 l0_2 x24_2).f0), .int .i64 ((rd_T103 l0_2 x24_2).f1), .int .i64 ((rd_T103 l0_2 x24_2).f2), .string ((rd_T103 l0_2 x24_2).f3), .slice A391_4 ((rd_T103 l0_2 x24_2).f4).length c391_4] 103 (0, 0))) := ⟨(by rw [hw]; exact (by (with_reducible repeat (first | refine blk_drewN ?_ _ | refine blk_drew ?_ | refine blk_alloc ?_ _)); refine blk_put (cs := #[.int .i64 ((rd_T103 l0_2 x24_2).f0), .int .i64 ((rd_T103 l0_2 x24_2).f1), .int .i64 ((rd_T103 l0_2 x24_2).f2), .string ((rd_T103 l0_2 x24_2).f3), .slice none 0 0]) ?_ 4 _ rfl; (with_reducible repeat (first | refine blk_drewN ?_ _ | refine blk_drew ?_ | refine blk_alloc ?_ _)); refine blk_put (cs := #[.int .i64 ((rd_T103 l0_2 x24_2).f0), .int .i64 ((rd_T103 l0_2 x24_2).f1), .int .i64 ((rd_T103 l0_2 x24_2).f2), .string (⟨#[]⟩ : ByteArray), .slice none 0 0]) ?_ 3 _ rfl; (with_reducible repeat (first | refine blk_drewN ?_ _ | refine blk_drew ?_ | refine blk_alloc ?_ _)); refine blk_put (cs := #[.int .i64 ((rd_T103 l0_2 x24_2).f0), .int .i64 ((rd_T103 l0_2 x24_2).f1), .int .i64 0, .string (⟨#[]⟩ : ByteArray), .slice none 0 0]) ?_ 2 _ rfl; (with_reducible repeat (first | refine blk_drewN ?_ _ | refine blk_drew ?_ | refine blk_alloc ?_ _)); refine blk_put (cs := #[.int .i64 ((rd_T103 l0_2 x24_2).f0), .int .i64 0, .int .i64 0, .string (⟨#[]⟩ : ByteArray), .slice none 0 0]) ?_ 1 _ rfl; (with_reducible repeat (first | refine blk_drewN ?_ _ | refine blk_drew ?_ | refine blk_alloc ?_ _)); refine blk_put (cs := #[.int .i64 0, .int .i64 0, .int .i64 0, .string (⟨#[]⟩ : ByteArray), .slice none 0 0]) ?_ 0 _ rfl; (with_reducible repeat (first | refine blk_drewN ?_ _ | refine blk_drew ?_ | refine blk_alloc ?_ _)); exact BK392.out))⟩; have n2_ : Aside0 (Below w.heap.size w w18) := ⟨(by rw [hw]; exact Xi)⟩; clear hw; clear BK388; clear BK392; clear HB; have BK388 := n0_; have BK392 := n1_; have HB := n2_; clear n0_ n1_ n2_))
  (try simp only [XW.q0, XW.q1, XW.q2])
  go_cut [75] (fun v75 wc => ∃ (kq : Nat) (x75_13 : Bool), v75 = .bool x75_13 ∧ Aside0 (impl_DocOK.j2 kq l0_2 (l0_2.length : Int) x24_2 x75_13 a0_0 a0_1 l0_2 = some r) ∧ Aside0 (kq ≤ k2) ∧ Aside0 (wc.heap[gb388]? = some (.cells #[.int .i64 a0_0, .int .i64 a0_1, (.slice (some ad391) l0_2.length c0_2)] 65 (0, 0))) ∧ Aside0 (wc.heap[gb392]? = some (.cells #[.int .i64 ((rd_T103 l0_2 x24_2).f0), .int .i64 ((rd_T103 l0_2 x24_2).f1), .int .i64 ((rd_T103 l0_2 x24_2).f2), .string ((rd_T103 l0_2 x24_2).f3), (.slice A391_4 ((rd_T103 l0_2 x24_2).f4).length c391_4)] 103 (0, 0))) ∧ Aside0 (Below w.heap.size w wc))
  case first =>
   have H := HC14.out
   clear HC14
   obtain ⟨t393, A19, H⟩ := Xbi H
   (try dsimp only at H)
   by_cases c20 : t393 = true
   ·subst c20
    (first | rw [if_pos rfl] at H | skip)
    obtain ⟨c21, H⟩ | ⟨c21, H⟩ := Xiu H
    ·have c21b0 : decide (0 < x24_2) = true := decide_eq_true c21
     clear c21
     (first | rw [c21b0] | (simp only [i64_w, i32_w]; rw [c21b0]) | skip)
     obtain ⟨ji22, hji22⟩ : ∃ j_ : Int, (wrap64 (x24_2 - 1)) = j_ := ⟨_, rfl⟩
     replace H : (if 0 ≤ (ji22) then (if (ji22) < (l0_2.length : Int) then (if ((rd_T103 l0_2 (ji22)).f0) ≥ ((rd_T103 l0_2 x24_2).f0) then (impl_DocOK.j2 k2 l0_2 (l0_2.length : Int) x24_2 true a0_0 a0_1 l0_2) else ((impl_within.f ((rd_T103 l0_2 x24_2).f1) 1 8).bind fun t395 => (if t395 = true then ((impl_within.f ((rd_T103 l0_2 x24_2).f2) 0 99).bind fun t396 => (if t396 = true then (if (((rd_T103 l0_2 x24_2).f3).size : Int) > 20 then (impl_DocOK.j2 k2 l0_2 (l0_2.length : Int) x24_2 true a0_0 a0_1 l0_2) else (impl_DocOK.j2 k2 l0_2 (l0_2.length : Int) x24_2 (decide ((((rd_T103 l0_2 x24_2).f4).length : Int) > 12)) a0_0 a0_1 l0_2)) else (impl_DocOK.j2 k2 l0_2 (l0_2.length : Int) x24_2 true a0_0 a0_1 l0_2))) else (impl_DocOK.j2 k2 l0_2 (l0_2.length : Int) x24_2 true a0_0 a0_1 l0_2)))) else (none)) else (none)) = some r := by first | (rw [hji22] at H; exact H) | (simp only [hji22] at H ⊢; exact H)
     (try rw [hji22] at A19)
     have hji22w : (IntKind.i64.wrap (x24_2 - 1)) = ji22 := (i64_w _).trans hji22
     obtain ⟨c23b0, H⟩ := Xid H
     obtain ⟨c24b0, H⟩ := Xid H
     obtain ⟨c25, H⟩ | ⟨c25, H⟩ := Xiu H
     ·have c25b0 : decide (((rd_T103 l0_2 x24_2).f0) ≤ ((rd_T103 l0_2 (ji22)).f0)) = true := decide_eq_true c25
      clear c25
      have H' := Aside0.mk H
      clear H
      have hnb26 := NB392_388.out
      have hnc26 := NB388_392.out
      obtain ⟨hcz27_0, hcz27_1, hcz27_2, hcz27_3, hcz27_4⟩ := Xc5 BK392
      obtain ⟨hfz27_0, hfz27_1, hfz27_2, hfz27_3, hfz27_4⟩ := Xf5 BK392
      obtain ⟨hcz28_0, hcz28_1, hcz28_2⟩ := Xc3 BK388
      obtain ⟨hfz28_0, hfz28_1, hfz28_2⟩ := Xf3 BK388
      obtain ⟨ad394, A394_4, c394_4, e394, p394, q394, hx394_0, hx394_1, hx394_2, hx394_3, hx394_4, HC394_4, HR394_4⟩ := at_B103 HR0_2 (ji22) Xa Xa HB
      obtain rfl : ad391 = ad394 := (by injection e394)
      (try go_wp2)
      repeat (go_quiet (first | (go_at_call 107; (with_reducible refine (impl_within.calls ((rd_T103 l0_2 x24_2).f0) 1 (wrap64 (a0_1 - 1)) true _ A19.out).mono ?_); rintro e w' ⟨rfl, ⟨nd, rfl⟩⟩; (try exact Xdd))); try go_wp2)
      go_meet
      case rel => exact ⟨_, (true), Xr, H', ⟨by have := HJ1.out; have := HK2.out; first | omega | exact Nat.le_refl _⟩, BK388, BK392, ⟨Xi⟩⟩
     have c25b0 : decide (((rd_T103 l0_2 x24_2).f0) ≤ ((rd_T103 l0_2 (ji22)).f0)) = false := decide_eq_false c25
     clear c25
     obtain ⟨t395, A29, H⟩ := Xbi H
     (try dsimp only at H)
     by_cases c30 : t395 = true
     ·subst c30
      (first | rw [if_pos rfl] at H | skip)
      obtain ⟨t396, A31, H⟩ := Xbi H
      (try dsimp only at H)
      by_cases c32 : t396 = true
      ·subst c32
       (first | rw [if_pos rfl] at H | skip)
       obtain ⟨c33, H⟩ | ⟨c33, H⟩ := Xiu H
       ·have c33b0 : decide (20 < (((rd_T103 l0_2 x24_2).f3).size : Int)) = true := decide_eq_true c33
        have c33b1 : decide (20 < ((rd_T103 l0_2 x24_2).f3).size) = true := decide_eq_true (by omega)
        clear c33
        have H' := Aside0.mk H
        clear H
        have hnb34 := NB392_388.out
        have hnc34 := NB388_392.out
        obtain ⟨hcz35_0, hcz35_1, hcz35_2, hcz35_3, hcz35_4⟩ := Xc5 BK392
        obtain ⟨hfz35_0, hfz35_1, hfz35_2, hfz35_3, hfz35_4⟩ := Xf5 BK392
        obtain ⟨hcz36_0, hcz36_1, hcz36_2⟩ := Xc3 BK388
        obtain ⟨hfz36_0, hfz36_1, hfz36_2⟩ := Xf3 BK388
        obtain ⟨ad394, A394_4, c394_4, e394, p394, q394, hx394_0, hx394_1, hx394_2, hx394_3, hx394_4, HC394_4, HR394_4⟩ := at_B103 HR0_2 (ji22) Xa Xa HB
        obtain rfl : ad391 = ad394 := (by injection e394)
        (try go_wp2)
        repeat (go_quiet (first | (go_at_call 107; (with_reducible refine (impl_within.calls ((rd_T103 l0_2 x24_2).f0) 1 (wrap64 (a0_1 - 1)) true _ A19.out).mono ?_); rintro e w' ⟨rfl, ⟨nd, rfl⟩⟩; (try exact Xdd)) | (go_at_call 107; (with_reducible refine (impl_within.calls ((rd_T103 l0_2 x24_2).f1) 1 8 true _ A29.out).mono ?_); rintro e w' ⟨rfl, ⟨nd, rfl⟩⟩; (try exact Xdd)) | (go_at_call 107; (with_reducible refine (impl_within.calls ((rd_T103 l0_2 x24_2).f2) 0 99 true _ A31.out).mono ?_); rintro e w' ⟨rfl, ⟨nd, rfl⟩⟩; (try exact Xdd))); try go_wp2)
        go_meet
        case rel => exact ⟨_, (true), Xr, H', ⟨by have := HJ1.out; have := HK2.out; first | omega | exact Nat.le_refl _⟩, BK388, BK392, ⟨Xi⟩⟩
       have c33b0 : decide (20 < (((rd_T103 l0_2 x24_2).f3).size : Int)) = false := decide_eq_false c33
       have c33b1 : decide (20 < ((rd_T103 l0_2 x24_2).f3).size) = false := decide_eq_false (by omega)
       clear c33
       have H' := Aside0.mk H
       clear H
       have hnb37 := NB392_388.out
       have hnc37 := NB388_392.out
       obtain ⟨hcz38_0, hcz38_1, hcz38_2, hcz38_3, hcz38_4⟩ := Xc5 BK392
       obtain ⟨hfz38_0, hfz38_1, hfz38_2, hfz38_3, hfz38_4⟩ := Xf5 BK392
       obtain ⟨hcz39_0, hcz39_1, hcz39_2⟩ := Xc3 BK388
       obtain ⟨hfz39_0, hfz39_1, hfz39_2⟩ := Xf3 BK388
       obtain ⟨ad394, A394_4, c394_4, e394, p394, q394, hx394_0, hx394_1, hx394_2, hx394_3, hx394_4, HC394_4, HR394_4⟩ := at_B103 HR0_2 (ji22) Xa Xa HB
       obtain rfl : ad391 = ad394 := (by injection e394)
       (try go_wp2)
       repeat (go_quiet (first | (go_at_call 107; (with_reducible refine (impl_within.calls ((rd_T103 l0_2 x24_2).f0) 1 (wrap64 (a0_1 - 1)) true _ A19.out).mono ?_); rintro e w' ⟨rfl, ⟨nd, rfl⟩⟩; (try exact Xdd)) | (go_at_call 107; (with_reducible refine (impl_within.calls ((rd_T103 l0_2 x24_2).f1) 1 8 true _ A29.out).mono ?_); rintro e w' ⟨rfl, ⟨nd, rfl⟩⟩; (try exact Xdd)) | (go_at_call 107; (with_reducible refine (impl_within.calls ((rd_T103 l0_2 x24_2).f2) 0 99 true _ A31.out).mono ?_); rintro e w' ⟨rfl, ⟨nd, rfl⟩⟩; (try exact Xdd))); try go_wp2)
       go_meet
       case rel => exact ⟨_, (decide ((((rd_T103 l0_2 x24_2).f4).length : Int) > 12)), Xr, H', ⟨by have := HJ1.out; have := HK2.out; first | omega | exact Nat.le_refl _⟩, BK388, BK392, ⟨Xi⟩⟩
      replace c32 := Bool.eq_false_iff.mpr c32
      subst c32
      (first | rw [if_neg (show ¬ (false = true) by decide)] at H | skip)
      have H' := Aside0.mk H
      clear H
      have hnb40 := NB392_388.out
      have hnc40 := NB388_392.out
      obtain ⟨hcz41_0, hcz41_1, hcz41_2, hcz41_3, hcz41_4⟩ := Xc5 BK392
      obtain ⟨hfz41_0, hfz41_1, hfz41_2, hfz41_3, hfz41_4⟩ := Xf5 BK392
      obtain ⟨hcz42_0, hcz42_1, hcz42_2⟩ := Xc3 BK388
      obtain ⟨hfz42_0, hfz42_1, hfz42_2⟩ := Xf3 BK388
      obtain ⟨ad394, A394_4, c394_4, e394, p394, q394, hx394_0, hx394_1, hx394_2, hx394_3, hx394_4, HC394_4, HR394_4⟩ := at_B103 HR0_2 (ji22) Xa Xa HB
      obtain rfl : ad391 = ad394 := (by injection e394)
      (try go_wp2)
      repeat (go_quiet (first | (go_at_call 107; (with_reducible refine (impl_within.calls ((rd_T103 l0_2 x24_2).f0) 1 (wrap64 (a0_1 - 1)) true _ A19.out).mono ?_); rintro e w' ⟨rfl, ⟨nd, rfl⟩⟩; (try exact Xdd)) | (go_at_call 107; (with_reducible refine (impl_within.calls ((rd_T103 l0_2 x24_2).f1) 1 8 true _ A29.out).mono ?_); rintro e w' ⟨rfl, ⟨nd, rfl⟩⟩; (try exact Xdd)) | (go_at_call 107; (with_reducible refine (impl_within.calls ((rd_T103 l0_2 x24_2).f2) 0 99 false _ A31.out).mono ?_); rintro e w' ⟨rfl, ⟨nd, rfl⟩⟩; (try exact Xdd))); try go_wp2)
      go_meet
      case rel => exact ⟨_, (true), Xr, H', ⟨by have := HJ1.out; have := HK2.out; first | omega | exact Nat.le_refl _⟩, BK388, BK392, ⟨Xi⟩⟩
     replace c30 := Bool.eq_false_iff.mpr c30
     subst c30
     (first | rw [if_neg (show ¬ (false = true) by decide)] at H | skip)
     have H' := Aside0.mk H
     clear H
     have hnb43 := NB392_388.out
     have hnc43 := NB388_392.out
     obtain ⟨hcz44_0, hcz44_1, hcz44_2, hcz44_3, hcz44_4⟩ := Xc5 BK392
     obtain ⟨hfz44_0, hfz44_1, hfz44_2, hfz44_3, hfz44_4⟩ := Xf5 BK392
     obtain ⟨hcz45_0, hcz45_1, hcz45_2⟩ := Xc3 BK388
     obtain ⟨hfz45_0, hfz45_1, hfz45_2⟩ := Xf3 BK388
     obtain ⟨ad394, A394_4, c394_4, e394, p394, q394, hx394_0, hx394_1, hx394_2, hx394_3, hx394_4, HC394_4, HR394_4⟩ := at_B103 HR0_2 (ji22) Xa Xa HB
     obtain rfl : ad391 = ad394 := (by injection e394)
     (try go_wp2)
     repeat (go_quiet (first | (go_at_call 107; (with_reducible refine (impl_within.calls ((rd_T103 l0_2 x24_2).f0) 1 (wrap64 (a0_1 - 1)) true _ A19.out).mono ?_); rintro e w' ⟨rfl, ⟨nd, rfl⟩⟩; (try exact Xdd)) | (go_at_call 107; (with_reducible refine (impl_within.calls ((rd_T103 l0_2 x24_2).f1) 1 8 false _ A29.out).mono ?_); rintro e w' ⟨rfl, ⟨nd, rfl⟩⟩; (try exact Xdd))); try go_wp2)
     go_meet
     case rel => exact ⟨_, (true), Xr, H', ⟨by have := HJ1.out; have := HK2.out; first | omega | exact Nat.le_refl _⟩, BK388, BK392, ⟨Xi⟩⟩
    have c21b0 : decide (0 < x24_2) = false := decide_eq_false c21
    clear c21
    (first | rw [c21b0] | (simp only [i64_w, i32_w]; rw [c21b0]) | skip)
    obtain ⟨t397, A46, H⟩ := Xbi H
    (try dsimp only at H)
    by_cases c47 : t397 = true
    ·subst c47
     (first | rw [if_pos rfl] at H | skip)
     obtain ⟨t398, A48, H⟩ := Xbi H
     (try dsimp only at H)
     by_cases c49 : t398 = true
     ·subst c49
      (first | rw [if_pos rfl] at H | skip)
      obtain ⟨c50, H⟩ | ⟨c50, H⟩ := Xiu H
      ·have c50b0 : decide (20 < (((rd_T103 l0_2 x24_2).f3).size : Int)) = true := decide_eq_true c50
       have c50b1 : decide (20 < ((rd_T103 l0_2 x24_2).f3).size) = true := decide_eq_true (by omega)
       clear c50
       have H' := Aside0.mk H
       clear H
       have hnb51 := NB392_388.out
       have hnc51 := NB388_392.out
       obtain ⟨hcz52_0, hcz52_1, hcz52_2, hcz52_3, hcz52_4⟩ := Xc5 BK392
       obtain ⟨hfz52_0, hfz52_1, hfz52_2, hfz52_3, hfz52_4⟩ := Xf5 BK392
       obtain ⟨hcz53_0, hcz53_1, hcz53_2⟩ := Xc3 BK388
       obtain ⟨hfz53_0, hfz53_1, hfz53_2⟩ := Xf3 BK388
       (try go_wp2)
       repeat (go_quiet (first | (go_at_call 107; (with_reducible refine (impl_within.calls ((rd_T103 l0_2 x24_2).f0) 1 (wrap64 (a0_1 - 1)) true _ A19.out).mono ?_); rintro e w' ⟨rfl, ⟨nd, rfl⟩⟩; (try exact Xdd)) | (go_at_call 107; (with_reducible refine (impl_within.calls ((rd_T103 l0_2 x24_2).f1) 1 8 true _ A46.out).mono ?_); rintro e w' ⟨rfl, ⟨nd, rfl⟩⟩; (try exact Xdd)) | (go_at_call 107; (with_reducible refine (impl_within.calls ((rd_T103 l0_2 x24_2).f2) 0 99 true _ A48.out).mono ?_); rintro e w' ⟨rfl, ⟨nd, rfl⟩⟩; (try exact Xdd))); try go_wp2)
       go_meet
       case rel => exact ⟨_, (true), Xr, H', ⟨by have := HJ1.out; have := HK2.out; first | omega | exact Nat.le_refl _⟩, BK388, BK392, ⟨Xi⟩⟩
      have c50b0 : decide (20 < (((rd_T103 l0_2 x24_2).f3).size : Int)) = false := decide_eq_false c50
      have c50b1 : decide (20 < ((rd_T103 l0_2 x24_2).f3).size) = false := decide_eq_false (by omega)
      clear c50
      have H' := Aside0.mk H
      clear H
      have hnb54 := NB392_388.out
      have hnc54 := NB388_392.out
      obtain ⟨hcz55_0, hcz55_1, hcz55_2, hcz55_3, hcz55_4⟩ := Xc5 BK392
      obtain ⟨hfz55_0, hfz55_1, hfz55_2, hfz55_3, hfz55_4⟩ := Xf5 BK392
      obtain ⟨hcz56_0, hcz56_1, hcz56_2⟩ := Xc3 BK388
      obtain ⟨hfz56_0, hfz56_1, hfz56_2⟩ := Xf3 BK388
      (try go_wp2)
      repeat (go_quiet (first | (go_at_call 107; (with_reducible refine (impl_within.calls ((rd_T103 l0_2 x24_2).f0) 1 (wrap64 (a0_1 - 1)) true _ A19.out).mono ?_); rintro e w' ⟨rfl, ⟨nd, rfl⟩⟩; (try exact Xdd)) | (go_at_call 107; (with_reducible refine (impl_within.calls ((rd_T103 l0_2 x24_2).f1) 1 8 true _ A46.out).mono ?_); rintro e w' ⟨rfl, ⟨nd, rfl⟩⟩; (try exact Xdd)) | (go_at_call 107; (with_reducible refine (impl_within.calls ((rd_T103 l0_2 x24_2).f2) 0 99 true _ A48.out).mono ?_); rintro e w' ⟨rfl, ⟨nd, rfl⟩⟩; (try exact Xdd))); try go_wp2)
      go_meet
      case rel => exact ⟨_, (decide ((((rd_T103 l0_2 x24_2).f4).length : Int) > 12)), Xr, H', ⟨by have := HJ1.out; have := HK2.out; first | omega | exact Nat.le_refl _⟩, BK388, BK392, ⟨Xi⟩⟩
     replace c49 := Bool.eq_false_iff.mpr c49
     subst c49
     (first | rw [if_neg (show ¬ (false = true) by decide)] at H | skip)
     have H' := Aside0.mk H
     clear H
     have hnb57 := NB392_388.out
     have hnc57 := NB388_392.out
     obtain ⟨hcz58_0, hcz58_1, hcz58_2, hcz58_3, hcz58_4⟩ := Xc5 BK392
     obtain ⟨hfz58_0, hfz58_1, hfz58_2, hfz58_3, hfz58_4⟩ := Xf5 BK392
     obtain ⟨hcz59_0, hcz59_1, hcz59_2⟩ := Xc3 BK388
     obtain ⟨hfz59_0, hfz59_1, hfz59_2⟩ := Xf3 BK388
     (try go_wp2)
     repeat (go_quiet (first | (go_at_call 107; (with_reducible refine (impl_within.calls ((rd_T103 l0_2 x24_2).f0) 1 (wrap64 (a0_1 - 1)) true _ A19.out).mono ?_); rintro e w' ⟨rfl, ⟨nd, rfl⟩⟩; (try exact Xdd)) | (go_at_call 107; (with_reducible refine (impl_within.calls ((rd_T103 l0_2 x24_2).f1) 1 8 true _ A46.out).mono ?_); rintro e w' ⟨rfl, ⟨nd, rfl⟩⟩; (try exact Xdd)) | (go_at_call 107; (with_reducible refine (impl_within.calls ((rd_T103 l0_2 x24_2).f2) 0 99 false _ A48.out).mono ?_); rintro e w' ⟨rfl, ⟨nd, rfl⟩⟩; (try exact Xdd))); try go_wp2)
     go_meet
     case rel => exact ⟨_, (true), Xr, H', ⟨by have := HJ1.out; have := HK2.out; first | omega | exact Nat.le_refl _⟩, BK388, BK392, ⟨Xi⟩⟩
    replace c47 := Bool.eq_false_iff.mpr c47
    subst c47
    (first | rw [if_neg (show ¬ (false = true) by decide)] at H | skip)
    have H' := Aside0.mk H
    clear H
    have hnb60 := NB392_388.out
    have hnc60 := NB388_392.out
    obtain ⟨hcz61_0, hcz61_1, hcz61_2, hcz61_3, hcz61_4⟩ := Xc5 BK392
    obtain ⟨hfz61_0, hfz61_1, hfz61_2, hfz61_3, hfz61_4⟩ := Xf5 BK392
    obtain ⟨hcz62_0, hcz62_1, hcz62_2⟩ := Xc3 BK388
    obtain ⟨hfz62_0, hfz62_1, hfz62_2⟩ := Xf3 BK388
    (try go_wp2)
    repeat (go_quiet (first | (go_at_call 107; (with_reducible refine (impl_within.calls ((rd_T103 l0_2 x24_2).f0) 1 (wrap64 (a0_1 - 1)) true _ A19.out).mono ?_); rintro e w' ⟨rfl, ⟨nd, rfl⟩⟩; (try exact Xdd)) | (go_at_call 107; (with_reducible refine (impl_within.calls ((rd_T103 l0_2 x24_2).f1) 1 8 false _ A46.out).mono ?_); rintro e w' ⟨rfl, ⟨nd, rfl⟩⟩; (try exact Xdd))); try go_wp2)
    go_meet
    case rel => exact ⟨_, (true), Xr, H', ⟨by have := HJ1.out; have := HK2.out; first | omega | exact Nat.le_refl _⟩, BK388, BK392, ⟨Xi⟩⟩
   replace c20 := Bool.eq_false_iff.mpr c20
   subst c20
   (first | rw [if_neg (show ¬ (false = true) by decide)] at H | skip)
   have H' := Aside0.mk H
   clear H
   have hnb63 := NB392_388.out
   have hnc63 := NB388_392.out
   obtain ⟨hcz64_0, hcz64_1, hcz64_2, hcz64_3, hcz64_4⟩ := Xc5 BK392
   obtain ⟨hfz64_0, hfz64_1, hfz64_2, hfz64_3, hfz64_4⟩ := Xf5 BK392
   obtain ⟨hcz65_0, hcz65_1, hcz65_2⟩ := Xc3 BK388
   obtain ⟨hfz65_0, hfz65_1, hfz65_2⟩ := Xf3 BK388
   (try go_wp2)
   repeat (go_quiet (first | (go_at_call 107; (with_reducible refine (impl_within.calls ((rd_T103 l0_2 x24_2).f0) 1 (wrap64 (a0_1 - 1)) false _ A19.out).mono ?_); rintro e w' ⟨rfl, ⟨nd, rfl⟩⟩; (try exact Xdd))); try go_wp2)
   go_meet
   case rel => exact ⟨_, (true), Xr, H', ⟨by have := HJ1.out; have := HK2.out; first | omega | exact Nat.le_refl _⟩, BK388, BK392, ⟨Xi⟩⟩
  clear HC14
  (try clear c9); (try clear c11); (try clear c11b0); (try clear c12); (try clear c12b0); (try clear c13); (try clear c13b0); (try clear hcz10_0); (try clear hcz10_1); (try clear hcz10_2); (try clear hcz17_0); (try clear hcz17_1); (try clear hcz17_2); (try clear hcz17_3); (try clear hcz17_4); (try clear hfz10_0); (try clear hfz10_1); (try clear hfz10_2); (try clear hfz17_0); (try clear hfz17_1); (try clear hfz17_2); (try clear hfz17_3); (try clear hfz17_4); (try clear hx391_0); (try clear hx391_1); (try clear hx391_2); (try clear hx391_3); (try clear hx391_4); (try clear p391); (try clear q391)
  obtain ⟨kq, x75_13, rfl, HA, HJ13, BK388, BK392, HB⟩ := hcut
  cases kq with | zero => cases HA.out | succ kj13 => ?_
  have H := HA.out
  clear HA
  simp only [impl_DocOK.j2] at H
  by_cases c66 : x75_13 = true
  ·subst c66
   (first | rw [if_pos rfl] at H | skip)
   obtain rfl := Option.some.inj H
   go_wp2
   go_ret
   exact ⟨Xe, Xi⟩
  replace c66 := Bool.eq_false_iff.mpr c66
  subst c66
  (first | rw [if_neg (show ¬ (false = true) by decide)] at H | skip)
  have H' := Aside0.mk H
  clear H
  go_wp2
  go_roundg kj13
  case measure => have := HJ1.out; have := HK2.out; have := HJ13.out; omega
  case rel => exact ⟨(wrap64 (x24_2 + 1)), Xr, H', ⟨by have := HJ1.out; have := HK2.out; have := HJ13.out; omega⟩, BK388, ⟨Xi⟩⟩
 have H' := Aside0.mk H
 clear H
 go_wp2_with (first | ((with_reducible refine gate_dst (N := 77) rfl ?_); (try (refine gate_guard (by rfl) ?_; dsimp only)); refine XM.make_event Value.bool ?hg (N := 77) ?hd 154 ?hr ?_; (case hd => rfl); (case hg => rfl); (case hr => rfl); intro gb399 hg w67 hbox hb; have BK399 := Aside0.mk (hbox); have GE399 := Xge hg Xi; replace HB := Aside0.mk (below_step Xi hb); have NB388_399 := Xnb hg BK388; have NB399_388 := Xns NB388_399; replace BK388 := Xbb BK388 hb; clear hb hbox hg; have hnb68 := NB388_399.out; have hnc68 := NB399_388.out; obtain ⟨hcz69_0, hcz69_1, hcz69_2⟩ := Xc3 BK388; obtain ⟨hfz69_0, hfz69_1, hfz69_2⟩ := Xf3 BK388))
 go_loopg [81] k2 (fun kq v81 w' => ∃ (x81_3 : Int) (x400000_3 : List (Int × Bool)), v81 = .int .i64 x81_3 ∧ Aside0 (impl_DocOK.l1 kq l0_2 (l0_2.length : Int) x81_3 a0_0 a0_1 l0_2 x400000_3 = some r) ∧ Aside0 (kq ≤ k2) ∧ Aside0 (w'.heap[gb388]? = some (.cells #[.int .i64 a0_0, .int .i64 a0_1, (.slice A0_2 l0_2.length c0_2)] 65 (0, 0))) ∧ Aside0 (w'.heap[gb399]? = some (XM.mapObj Value.bool x400000_3)) ∧ Aside0 (Below w.heap.size w w'))
 case atStart => exact ⟨(0), (([] : List (Int × Bool))), Xr, H', Xkr, BK388, BK399, ⟨Xi⟩⟩
 clear H'
 (try clear c9); (try clear c11); (try clear c11b0); (try clear hcz10_0); (try clear hcz10_1); (try clear hcz10_2); (try clear hcz69_0); (try clear hcz69_1); (try clear hcz69_2); (try clear hfz10_0); (try clear hfz10_1); (try clear hfz10_2); (try clear hfz69_0); (try clear hfz69_1); (try clear hfz69_2)
 obtain ⟨x81_3, x400000_3, rfl, HA, HK3, BK388, BK399, HB⟩ := hrel
 cases gk with | zero => cases HA.out | succ k3 => ?_
 have H := HA.out
 clear HA
 simp only [impl_DocOK.l1] at H
 obtain ⟨c70b0, H⟩ | ⟨c70b0, H⟩ := Xit H
 ·obtain ⟨c71b0, H⟩ := Xid H
  obtain ⟨c72b0, H⟩ := Xid H
  have H' := Aside0.mk H
  clear H
  obtain ⟨ad400, A400_4, c400_4, e400, p400, q400, hx400_0, hx400_1, hx400_2, hx400_3, hx400_4, HC400_4, HR400_4⟩ := at_B103 HR0_2 x81_3 Xa Xa HB
  cases e400
  go_wp2_with (first | ((with_reducible refine gate_dst (N := 7) rfl ?_); (try (refine gate_guard (by rfl) ?_; dsimp only)); refine Xbox 7 #[.int .i64 0, .int .i64 0, .int .i64 0, .string (⟨#[]⟩ : ByteArray), .slice none 0 0] 103 ?_; intro gb401 hg w73 hbox hb; have BK401 := Aside0.mk (hbox); have GE401 := Xge hg Xi; replace HB := Aside0.mk (below_step Xi hb); have NB388_401 := Xnb hg BK388; have NB401_388 := Xns NB388_401; replace BK388 := Xbb BK388 hb; have NB399_401 := Xnb hg BK399; have NB401_399 := Xns NB399_401; replace BK399 := Xbb BK399 hb; clear hb hbox hg; have hnb74 := NB401_388.out; have hnc74 := NB388_401.out; have hnb75 := NB401_399.out; have hnc75 := NB399_401.out; obtain ⟨hcz76_0, hcz76_1, hcz76_2, hcz76_3, hcz76_4⟩ := Xc5 BK401; obtain ⟨hfz76_0, hfz76_1, hfz76_2, hfz76_3, hfz76_4⟩ := Xf5 BK401) | ((with_reducible refine gate_store (t := 103) (p := 7) rfl ?_); refine store_event (t := 103) (p := 7) (v := ?vo_w77) (w1 := (((((w73.setCell ⟨gb401, 0, none⟩ (.int .i64 ((rd_T103 l0_2 x81_3).f0))).setCell ⟨gb401, 1, none⟩ (.int .i64 ((rd_T103 l0_2 x81_3).f1))).setCell ⟨gb401, 2, none⟩ (.int .i64 ((rd_T103 l0_2 x81_3).f2))).setCell ⟨gb401, 3, none⟩ (.string ((rd_T103 l0_2 x81_3).f3))).setCell ⟨gb401, 4, none⟩ (.slice A400_4 ((rd_T103 l0_2 x81_3).f4).length c400_4))) ?hg ?ho ?hn ?hr ?_; (case ho => rfl); (case hg => rfl); (case hn => rfl); (case hr => first | (go_simp; done) | (go_simp; rfl)); intro w77 hw; have n0_ : Aside0 (w77.heap[gb388]? = some (.cells #[.int .i64 a0_0, .int .i64 a0_1, .slice (some ad400) l0_2.length c0_2] 65 (0, 0))) := ⟨(by rw [hw]; exact (by (with_reducible repeat (first | refine blk_drewN ?_ _ | refine blk_drew ?_ | refine blk_alloc ?_ _)); refine blk_far ?_ NB388_401.out _; (with_reducible repeat (first | refine blk_drewN ?_ _ | refine blk_drew ?_ | refine blk_alloc ?_ _)); refine blk_far ?_ NB388_401.out _; (with_reducible repeat (first | refine blk_drewN ?_ _ | refine blk_drew ?_ | refine blk_alloc ?_ _)); refine blk_far ?_ NB388_401.out _; (with_reducible repeat (first | refine blk_drewN ?_ _ | refine blk_drew ?_ | refine blk_alloc ?_ _)); refine blk_far ?_ NB388_401.out _; (with_reducible repeat (first | refine blk_drewN ?_ _ | refine blk_drew ?_ | refine blk_alloc ?_ _)); refine blk_far ?_ NB388_401.out _; (with_reducible repeat (first | refine blk_drewN ?_ _ | refine blk_drew ?_ | refine blk_alloc ?_ _)); exact BK388.out))⟩; have n1_ : Aside0 (w77.heap[gb399]? = some (XM.mapObj Value.bool x400000_3)) := ⟨(by rw [hw]; exact (by (with_reducible repeat (first | refine blk_drewN ?_ _ | refine blk_drew ?_ | refine blk_alloc ?_ _)); refine XM.blk_far ?_ NB399_401.out _; (with_reducible repeat (first | refine blk_drewN ?_ _ | refine blk_drew ?_ | refine blk_alloc ?_ _)); refine XM.blk_far ?_ NB399_401.out _; (with_reducible repeat (first | refine blk_drewN ?_ _ | refine blk_drew ?_ | refine blk_alloc ?_ _)); refine XM.blk_far ?_ NB399_401.out _; (with_reducible repeat (first | refine blk_drewN ?_ _ | refine blk_drew ?_ | refine blk_alloc ?_ _)); refine XM.blk_far ?_ NB399_401.out _; (with_reducible repeat (first | refine blk_drewN ?_ _ | refine blk_drew ?_ | refine blk_alloc ?_ _)); refine XM.blk_far ?_ NB399_401.out _; (with_reducible repeat (first | refine blk_drewN ?_ _ | refine blk_drew ?_ | refine blk_alloc ?_ _)); exact BK399.out))⟩; have n2_ : Aside0 (w77.heap[gb401]? = some (.cells #[.int .i64 ((rd_T103 l0_2 x81_3).f0), .int .i64 ((rd_T103 l0_2 x81_3).f1), .int .i64 ((rd_T103 l0_2 x81_3).f2), .string ((rd_T103 l0_2 x81_3).f3), .slice A400_4 ((rd_T103 l0_2 x81_3).f4).length c400_4] 103 (0, 0))) := ⟨(by rw [hw]; exact (by (with_reducible repeat (first | refine blk_drewN ?_ _ | refine blk_drew ?_ | refine blk_alloc ?_ _)); refine blk_put (cs := #[.int .i64 ((rd_T103 l0_2 x81_3).f0), .int .i64 ((rd_T103 l0_2 x81_3).f1), .int .i64 ((rd_T103 l0_2 x81_3).f2), .string ((rd_T103 l0_2 x81_3).f3), .slice none 0 0]) ?_ 4 _ rfl; (with_reducible repeat (first | refine blk_drewN ?_ _ | refine blk_drew ?_ | refine blk_alloc ?_ _)); refine blk_put (cs := #[.int .i64 ((rd_T103 l0_2 x81_3).f0), .int .i64 ((rd_T103 l0_2 x81_3).f1), .int .i64 ((rd_T103 l0_2 x81_3).f2), .string (⟨#[]⟩ : ByteArray), .slice none 0 0]) ?_ 3 _ rfl; (with_reducible repeat (first | refine blk_drewN ?_ _ | refine blk_drew ?_ | refine blk_alloc ?_ _)); refine blk_put (cs := #[.int .i64 ((rd_T103 l0_2 x81_3).f0), .int .i64 ((rd_T103 l0_2 x81_3).f1), .int .i64 0, .string (⟨#[]⟩ : ByteArray), .slice none 0 0]) ?_ 2 _ rfl; (with_reducible repeat (first | refine blk_drewN ?_ _ | refine blk_drew ?_ | refine blk_alloc ?_ _)); refine blk_put (cs := #[.int .i64 ((rd_T103 l0_2 x81_3).f0), .int .i64 0, .int .i64 0, .string (⟨#[]⟩ : ByteArray), .slice none 0 0]) ?_ 1 _ rfl; (with_reducible repeat (first | refine blk_drewN ?_ _ | refine blk_drew ?_ | refine blk_alloc ?_ _)); refine blk_put (cs := #[.int .i64 0, .int .i64 0, .int .i64 0, .string (⟨#[]⟩ : ByteArray), .slice none 0 0]) ?_ 0 _ rfl; (with_reducible repeat (first | refine blk_drewN ?_ _ | refine blk_drew ?_ | refine blk_alloc ?_ _)); exact BK401.out))⟩; have n3_ : Aside0 (Below w.heap.size w w77) := ⟨(by rw [hw]; exact Xi)⟩; clear hw; clear BK388; clear BK399; clear BK401; clear HB; have BK388 := n0_; have BK399 := n1_; have BK401 := n2_; have HB := n3_; clear n0_ n1_ n2_ n3_; obtain ⟨hcz78_0, hcz78_1, hcz78_2, hcz78_3, hcz78_4⟩ := Xc5 BK401; obtain ⟨hfz78_0, hfz78_1, hfz78_2, hfz78_3, hfz78_4⟩ := Xf5 BK401))
  go_loopg [88] k3 (fun kq v88 w' => ∃ (x88_4 : Int) (x400000_4 : List (Int × Bool)), v88 = .int .i64 x88_4 ∧ Aside0 (impl_DocOK.l2 kq l0_2 (l0_2.length : Int) x81_3 ((rd_T103 l0_2 x81_3).f4) (((rd_T103 l0_2 x81_3).f4).length : Int) x88_4 a0_0 a0_1 l0_2 x400000_4 = some r) ∧ Aside0 (kq ≤ k3) ∧ Aside0 (w'.heap[gb388]? = some (.cells #[.int .i64 a0_0, .int .i64 a0_1, (.slice (some ad400) l0_2.length c0_2)] 65 (0, 0))) ∧ Aside0 (w'.heap[gb399]? = some (XM.mapObj Value.bool x400000_4)) ∧ Aside0 (w'.heap[gb401]? = some (.cells #[.int .i64 ((rd_T103 l0_2 x81_3).f0), .int .i64 ((rd_T103 l0_2 x81_3).f1), .int .i64 ((rd_T103 l0_2 x81_3).f2), .string ((rd_T103 l0_2 x81_3).f3), (.slice A400_4 ((rd_T103 l0_2 x81_3).f4).length c400_4)] 103 (0, 0))) ∧ Aside0 (Below w.heap.size w w'))
  case atStart => exact ⟨(0), (x400000_3), Xr, H', Xkr, BK388, BK399, BK401, ⟨Xi⟩⟩
  clear H'
  (try clear c9); (try clear c11); (try clear c11b0); (try clear c70); (try clear c70b0); (try clear c71); (try clear c71b0); (try clear c72); (try clear c72b0); (try clear hcz10_0); (try clear hcz10_1); (try clear hcz10_2); (try clear hcz69_0); (try clear hcz69_1); (try clear hcz69_2); (try clear hcz76_0); (try clear hcz76_1); (try clear hcz76_2); (try clear hcz76_3); (try clear hcz76_4); (try clear hcz78_0); (try clear hcz78_1); (try clear hcz78_2); (try clear hcz78_3); (try clear hcz78_4); (try clear hfz10_0); (try clear hfz10_1); (try clear hfz10_2); (try clear hfz69_0); (try clear hfz69_1); (try clear hfz69_2); (try clear hfz76_0); (try clear hfz76_1); (try clear hfz76_2); (try clear hfz76_3); (try clear hfz76_4); (try clear hfz78_0); (try clear hfz78_1); (try clear hfz78_2); (try clear hfz78_3); (try clear hfz78_4); (try clear hx400_0); (try clear hx400_1); (try clear hx400_2); (try clear hx400_3); (try clear hx400_4); (try clear p400); (try clear q400)
  obtain ⟨x88_4, x400000_4, rfl, HA, HK4, BK388, BK399, BK401, HB⟩ := hrel
  cases gk with | zero => cases HA.out | succ k4 => ?_
  have H := HA.out
  clear HA
  simp only [impl_DocOK.l2] at H
  obtain ⟨c79b0, H⟩ | ⟨c79b0, H⟩ := Xit H
  ·obtain ⟨c80b0, H⟩ := Xid H
   obtain ⟨c81b0, H⟩ := Xid H
   have HC82 := Aside0.mk H
   clear H
   have p402 : 0 ≤ (x88_4 : Int) := of_decide_eq_true Xa
   have q402 : x88_4 < (((rd_T103 l0_2 x81_3).f4).length : Int) := of_decide_eq_true Xa
   obtain ⟨ad402, e402, hx402_0⟩ := Kd.at_int HR400_4.out x88_4 p402 q402
   cases e402
   replace hx402_0 := Xm HB hx402_0
   replace p402 := eq_true p402
   replace q402 := eq_true q402
   go_upto_region 16 with (fail)
   go_cut [105] (fun v105 wc => ∃ (kq : Nat) (x105_81 : Bool), v105 = .bool x105_81 ∧ Aside0 (impl_DocOK.j5 kq (rd ((rd_T103 l0_2 x81_3).f4) x88_4) l0_2 (l0_2.length : Int) x81_3 ((rd_T103 l0_2 x81_3).f4) (((rd_T103 l0_2 x81_3).f4).length : Int) x88_4 x105_81 a0_0 a0_1 l0_2 x400000_4 = some r) ∧ Aside0 (kq ≤ k4) ∧ Aside0 (wc.heap[gb388]? = some (.cells #[.int .i64 a0_0, .int .i64 a0_1, (.slice (some ad400) l0_2.length c0_2)] 65 (0, 0))) ∧ Aside0 (wc.heap[gb399]? = some (XM.mapObj Value.bool x400000_4)) ∧ Aside0 (wc.heap[gb401]? = some (.cells #[.int .i64 ((rd_T103 l0_2 x81_3).f0), .int .i64 ((rd_T103 l0_2 x81_3).f1), .int .i64 ((rd_T103 l0_2 x81_3).f2), .string ((rd_T103 l0_2 x81_3).f3), (.slice (some ad402) ((rd_T103 l0_2 x81_3).f4).length c400_4)] 103 (0, 0))) ∧ Aside0 (Below w.heap.size w wc))
   case first =>
    have H := HC82.out
    clear HC82
    obtain ⟨c83, H⟩ | ⟨c83, H⟩ := Xiu H
    ·have c83b0 : XM.get false x400000_4 (rd ((rd_T103 l0_2 x81_3).f4) x88_4) = true := c83
     clear c83
     (first | rw [c83b0] | (simp only [i64_w, i32_w]; rw [c83b0]) | skip)
     have H' := Aside0.mk H
     clear H
     go_wp2_with (first | ((with_reducible refine gate_dst (N := 94) rfl ?_); (try (refine gate_guard (by rfl) ?_; dsimp only)); refine XM.lookup_event (enc := Value.bool) rfl (N := 94) rfl 154 _ _ rfl false (rd ((rd_T103 l0_2 x81_3).f4) x88_4) (g := gb399) (xs := x400000_4) rfl rfl (by first | (exact BK399.out)) Try.underlying154 Try.underlying3 (by first | rfl | (go_simp; done) | (go_simp; rfl)) ?_))
     go_meet
     case rel => exact ⟨_, (true), Xr, H', ⟨by have := HJ1.out; have := HK2.out; have := HK3.out; have := HK4.out; first | omega | exact Nat.le_refl _⟩, BK388, BK399, BK401, ⟨Xi⟩⟩
    have c83b0 : XM.get false x400000_4 (rd ((rd_T103 l0_2 x81_3).f4) x88_4) = false := by simpa using c83
    clear c83
    (first | rw [c83b0] | (simp only [i64_w, i32_w]; rw [c83b0]) | skip)
    obtain ⟨c84, H⟩ | ⟨c84, H⟩ := Xiu H
    ·have c84b0 : ((rd ((rd_T103 l0_2 x81_3).f4) x88_4) == a0_0) = true := beq_iff_eq.mpr c84
     have c84b1 : ((rd ((rd_T103 l0_2 x81_3).f4) x88_4) != a0_0) = false := bne_eq_false_iff_eq.mpr c84
     clear c84
     have H' := Aside0.mk H
     clear H
     have hnb85 := NB388_399.out
     have hnc85 := NB399_388.out
     have hnb86 := NB388_401.out
     have hnc86 := NB401_388.out
     obtain ⟨hcz87_0, hcz87_1, hcz87_2⟩ := Xc3 BK388
     obtain ⟨hfz87_0, hfz87_1, hfz87_2⟩ := Xf3 BK388
     go_wp2_with (first | ((with_reducible refine gate_dst (N := 94) rfl ?_); (try (refine gate_guard (by rfl) ?_; dsimp only)); refine XM.lookup_event (enc := Value.bool) rfl (N := 94) rfl 154 _ _ rfl false (rd ((rd_T103 l0_2 x81_3).f4) x88_4) (g := gb399) (xs := x400000_4) rfl rfl (by first | (exact BK399.out)) Try.underlying154 Try.underlying3 (by first | rfl | (go_simp; done) | (go_simp; rfl)) ?_))
     go_meet
     case rel => exact ⟨_, (true), Xr, H', ⟨by have := HJ1.out; have := HK2.out; have := HK3.out; have := HK4.out; first | omega | exact Nat.le_refl _⟩, BK388, BK399, BK401, ⟨Xi⟩⟩
    have c84b0 : ((rd ((rd_T103 l0_2 x81_3).f4) x88_4) == a0_0) = false := beq_eq_false_iff_ne.mpr c84
    have c84b1 : ((rd ((rd_T103 l0_2 x81_3).f4) x88_4) != a0_0) = true := bne_iff_ne.mpr c84
    obtain ⟨t403, A88, H⟩ := Xbi H
    (try dsimp only at H)
    have H' := Aside0.mk H
    clear H
    have hnb89 := NB388_399.out
    have hnc89 := NB399_388.out
    have hnb90 := NB388_401.out
    have hnc90 := NB401_388.out
    obtain ⟨hcz91_0, hcz91_1, hcz91_2⟩ := Xc3 BK388
    obtain ⟨hfz91_0, hfz91_1, hfz91_2⟩ := Xf3 BK388
    go_wp2_with (first | ((with_reducible refine gate_dst (N := 94) rfl ?_); (try (refine gate_guard (by rfl) ?_; dsimp only)); refine XM.lookup_event (enc := Value.bool) rfl (N := 94) rfl 154 _ _ rfl false (rd ((rd_T103 l0_2 x81_3).f4) x88_4) (g := gb399) (xs := x400000_4) rfl rfl (by first | (exact BK399.out)) Try.underlying154 Try.underlying3 (by first | rfl | (go_simp; done) | (go_simp; rfl)) ?_) | (go_at_call 121; (with_reducible refine (impl_Doc_has.calls k4 gb388 a0_0 a0_1 (some ad400) c0_2 l0_2 (rd ((rd_T103 l0_2 x81_3).f4) x88_4) t403 _ ?side1 ?side2 ?side3 A88.out).mono ?_); (case side1 => exact BK388.out); (case side2 => exact Xc HR0_2); (case side3 => exact HC0_2.out); rintro e w92 ⟨rfl, hb⟩; replace BK388 := Xbb BK388 hb; replace BK399 := Xbb BK399 hb; replace BK401 := Xbb BK401 hb; replace HB := Aside0.mk (below_step Xi hb); clear hb))
    go_meet
    case rel => exact ⟨_, (!t403), Xr, H', ⟨by have := HJ1.out; have := HK2.out; have := HK3.out; have := HK4.out; first | omega | exact Nat.le_refl _⟩, BK388, BK399, BK401, ⟨Xi⟩⟩
   clear HC82
   (try clear c9); (try clear c11); (try clear c11b0); (try clear c70); (try clear c70b0); (try clear c71); (try clear c71b0); (try clear c72); (try clear c72b0); (try clear c79); (try clear c79b0); (try clear c80); (try clear c80b0); (try clear c81); (try clear c81b0); (try clear hcz10_0); (try clear hcz10_1); (try clear hcz10_2); (try clear hcz69_0); (try clear hcz69_1); (try clear hcz69_2); (try clear hcz76_0); (try clear hcz76_1); (try clear hcz76_2); (try clear hcz76_3); (try clear hcz76_4); (try clear hcz78_0); (try clear hcz78_1); (try clear hcz78_2); (try clear hcz78_3); (try clear hcz78_4); (try clear hfz10_0); (try clear hfz10_1); (try clear hfz10_2); (try clear hfz69_0); (try clear hfz69_1); (try clear hfz69_2); (try clear hfz76_0); (try clear hfz76_1); (try clear hfz76_2); (try clear hfz76_3); (try clear hfz76_4); (try clear hfz78_0); (try clear hfz78_1); (try clear hfz78_2); (try clear hfz78_3); (try clear hfz78_4); (try clear hx400_0); (try clear hx400_1); (try clear hx400_2); (try clear hx400_3); (try clear hx400_4); (try clear hx402_0); (try clear p400); (try clear p402); (try clear q400); (try clear q402)
   obtain ⟨kq, x105_81, rfl, HA, HJ81, BK388, BK399, BK401, HB⟩ := hcut
   cases kq with | zero => cases HA.out | succ kj81 => ?_
   have H := HA.out
   clear HA
   simp only [impl_DocOK.j5] at H
   by_cases c93 : x105_81 = true
   ·subst c93
    (first | rw [if_pos rfl] at H | skip)
    obtain rfl := Option.some.inj H
    go_wp2
    go_ret
    exact ⟨Xe, Xi⟩
   replace c93 := Bool.eq_false_iff.mpr c93
   subst c93
   (first | rw [if_neg (show ¬ (false = true) by decide)] at H | skip)
   have H' := Aside0.mk H
   clear H
   go_wp2_with (first | ((with_reducible refine XM.gate_update (t := 154) rfl ?_); refine XM.update_event (enc := Value.bool) rfl rfl 154 _ _ _ rfl (rd ((rd_T103 l0_2 x81_3).f4) x88_4) true (g := gb399) (xs := x400000_4) rfl rfl rfl (by first | (exact BK399.out)) Try.underlying154 Try.underlying3 ?_; intro w94 hbox hg; replace BK388 := Aside0.mk (blk_grown (g := gb388) (o := .cells #[.int .i64 a0_0, .int .i64 a0_1, .slice (some ad400) l0_2.length c0_2] 65 (0, 0)) BK388.out hg (fun e_ => NB388_399.out (Option.some.inj e_))); replace BK399 := Aside0.mk (hbox); replace BK401 := Aside0.mk (blk_grown (g := gb401) (o := .cells #[.int .i64 ((rd_T103 l0_2 x81_3).f0), .int .i64 ((rd_T103 l0_2 x81_3).f1), .int .i64 ((rd_T103 l0_2 x81_3).f2), .string ((rd_T103 l0_2 x81_3).f3), .slice (some ad402) ((rd_T103 l0_2 x81_3).f4).length c400_4] 103 (0, 0)) BK401.out hg (fun e_ => NB401_399.out (Option.some.inj e_))); replace HB := Aside0.mk (Below.grown Xi hg HB.out.size (fun k_ e_ => Option.some.inj e_ ▸ GE399.out)); clear hbox hg))
   go_roundg kj81
   case measure => have := HJ1.out; have := HK2.out; have := HK3.out; have := HK4.out; have := HJ81.out; omega
   case rel => exact ⟨(wrap64 (x88_4 + 1)), (XM.put x400000_4 (rd ((rd_T103 l0_2 x81_3).f4) x88_4) true), Xr, H', ⟨by have := HJ1.out; have := HK2.out; have := HK3.out; have := HK4.out; have := HJ81.out; omega⟩, BK388, BK399, BK401, ⟨Xi⟩⟩
  have H' := Aside0.mk H
  clear H
  go_wp2
  go_roundg k4
  case measure => have := HJ1.out; have := HK2.out; have := HK3.out; have := HK4.out; omega
  case rel => exact ⟨(wrap64 (x81_3 + 1)), (x400000_4), Xr, H', ⟨by have := HJ1.out; have := HK2.out; have := HK3.out; have := HK4.out; omega⟩, BK388, BK399, ⟨Xi⟩⟩
 have HC95 := Aside0.mk H
 clear H
 go_upto_region 21 with (fail)
 go_cut [125] (fun v125 wc => ∃ (kq : Nat) (x125_94 : Bool), v125 = .bool x125_94 ∧ Aside0 (impl_DocOK.j6 kq x125_94 a0_0 a0_1 l0_2 = some r) ∧ Aside0 (kq ≤ k3) ∧ Aside0 (wc.heap[gb388]? = some (.cells #[.int .i64 a0_0, .int .i64 a0_1, (.slice A0_2 l0_2.length c0_2)] 65 (0, 0))) ∧ Aside0 (wc.heap[gb399]? = some (XM.mapObj Value.bool x400000_3)) ∧ Aside0 (Below w.heap.size w wc))
 case first =>
  have H := HC95.out
  clear HC95
  obtain ⟨t404, A96, H⟩ := Xbi H
  (try dsimp only at H)
  by_cases c97 : t404 = true
  ·subst c97
   (first | rw [if_pos rfl] at H | skip)
   obtain ⟨c98, H⟩ | ⟨c98, H⟩ := Xiu H
   ·have c98b0 : ((x400000_3.length : Int) == (wrap64 ((l0_2.length : Int) - 1))) = true := beq_iff_eq.mpr c98
    have c98b1 : ((x400000_3.length : Int) != (wrap64 ((l0_2.length : Int) - 1))) = false := bne_eq_false_iff_eq.mpr c98
    clear c98
    (first | rw [c98b0] | (simp only [i64_w, i32_w]; rw [c98b0]) | skip)
    obtain ⟨t405, A99, H⟩ := Xbi H
    (try dsimp only at H)
    have H' := Aside0.mk H
    clear H
    have hnb100 := NB388_399.out
    have hnc100 := NB399_388.out
    obtain ⟨hcz101_0, hcz101_1, hcz101_2⟩ := Xc3 BK388
    obtain ⟨hfz101_0, hfz101_1, hfz101_2⟩ := Xf3 BK388
    go_wp2_with (first | ((with_reducible refine gate_callee (f := 121) rfl ?_); refine Xgo 112 Try.func121 #[.pointer (some ⟨gb388, 0, none⟩), .int .i64 a0_0] ?_; (with_reducible refine (impl_Doc_has.calls k3 gb388 a0_0 a0_1 A0_2 c0_2 l0_2 a0_0 true _ ?side1 ?side2 ?side3 A96.out).mono ?_); (case side1 => exact BK388.out); (case side2 => exact Xc HR0_2); (case side3 => exact HC0_2.out); rintro e w102 ⟨rfl, hb⟩; refine ⟨_, rfl, ?_⟩; replace BK388 := Xbb BK388 hb; replace BK399 := Xbb BK399 hb; replace HB := Aside0.mk (below_step Xi hb); clear hb; obtain ⟨hcz103_0, hcz103_1, hcz103_2⟩ := Xc3 BK388; obtain ⟨hfz103_0, hfz103_1, hfz103_2⟩ := Xf3 BK388) | ((with_reducible refine gate_dst (N := 116) rfl ?_); (try (refine gate_guard (by rfl) ?_; dsimp only)); refine XM.len_event (enc := Value.bool) rfl (N := 116) rfl 154 _ rfl (g := gb399) (xs := x400000_3) rfl (by first | (exact BK399.out)) Try.underlying154 ?_) | (go_at_call 133; (with_reducible refine (impl_Doc_isDeep.calls k3 gb388 a0_0 a0_1 A0_2 c0_2 l0_2 t405 _ ?side1 ?side2 ?side3 A99.out).mono ?_); (case side1 => exact BK388.out); (case side2 => exact Xc HR0_2); (case side3 => exact HC0_2.out); rintro e w104 ⟨rfl, hb⟩; replace BK388 := Xbb BK388 hb; replace BK399 := Xbb BK399 hb; replace HB := Aside0.mk (below_step Xi hb); clear hb))
    go_meet
    case rel => exact ⟨_, (t405), Xr, H', ⟨by have := HJ1.out; have := HK2.out; have := HK3.out; first | omega | exact Nat.le_refl _⟩, BK388, BK399, ⟨Xi⟩⟩
   have c98b0 : ((x400000_3.length : Int) == (wrap64 ((l0_2.length : Int) - 1))) = false := beq_eq_false_iff_ne.mpr c98
   have c98b1 : ((x400000_3.length : Int) != (wrap64 ((l0_2.length : Int) - 1))) = true := bne_iff_ne.mpr c98
   (first | rw [c98b0] | (simp only [i64_w, i32_w]; rw [c98b0]) | skip)
   have H' := Aside0.mk H
   clear H
   have hnb105 := NB388_399.out
   have hnc105 := NB399_388.out
   obtain ⟨hcz106_0, hcz106_1, hcz106_2⟩ := Xc3 BK388
   obtain ⟨hfz106_0, hfz106_1, hfz106_2⟩ := Xf3 BK388
   go_wp2_with (first | ((with_reducible refine gate_callee (f := 121) rfl ?_); refine Xgo 112 Try.func121 #[.pointer (some ⟨gb388, 0, none⟩), .int .i64 a0_0] ?_; (with_reducible refine (impl_Doc_has.calls k3 gb388 a0_0 a0_1 A0_2 c0_2 l0_2 a0_0 true _ ?side1 ?side2 ?side3 A96.out).mono ?_); (case side1 => exact BK388.out); (case side2 => exact Xc HR0_2); (case side3 => exact HC0_2.out); rintro e w107 ⟨rfl, hb⟩; refine ⟨_, rfl, ?_⟩; replace BK388 := Xbb BK388 hb; replace BK399 := Xbb BK399 hb; replace HB := Aside0.mk (below_step Xi hb); clear hb; obtain ⟨hcz108_0, hcz108_1, hcz108_2⟩ := Xc3 BK388; obtain ⟨hfz108_0, hfz108_1, hfz108_2⟩ := Xf3 BK388) | ((with_reducible refine gate_dst (N := 116) rfl ?_); (try (refine gate_guard (by rfl) ?_; dsimp only)); refine XM.len_event (enc := Value.bool) rfl (N := 116) rfl 154 _ rfl (g := gb399) (xs := x400000_3) rfl (by first | (exact BK399.out)) Try.underlying154 ?_))
   go_meet
   case rel => exact ⟨_, (true), Xr, H', ⟨by have := HJ1.out; have := HK2.out; have := HK3.out; first | omega | exact Nat.le_refl _⟩, BK388, BK399, ⟨Xi⟩⟩
  replace c97 := Bool.eq_false_iff.mpr c97
  subst c97
  (first | rw [if_neg (show ¬ (false = true) by decide)] at H | skip)
  have H' := Aside0.mk H
  clear H
  have hnb109 := NB388_399.out
  have hnc109 := NB399_388.out
  obtain ⟨hcz110_0, hcz110_1, hcz110_2⟩ := Xc3 BK388
  obtain ⟨hfz110_0, hfz110_1, hfz110_2⟩ := Xf3 BK388
  go_wp2_with (first | ((with_reducible refine gate_callee (f := 121) rfl ?_); refine Xgo 112 Try.func121 #[.pointer (some ⟨gb388, 0, none⟩), .int .i64 a0_0] ?_; (with_reducible refine (impl_Doc_has.calls k3 gb388 a0_0 a0_1 A0_2 c0_2 l0_2 a0_0 false _ ?side1 ?side2 ?side3 A96.out).mono ?_); (case side1 => exact BK388.out); (case side2 => exact Xc HR0_2); (case side3 => exact HC0_2.out); rintro e w111 ⟨rfl, hb⟩; refine ⟨_, rfl, ?_⟩; replace BK388 := Xbb BK388 hb; replace BK399 := Xbb BK399 hb; replace HB := Aside0.mk (below_step Xi hb); clear hb))
  go_meet
  case rel => exact ⟨_, (true), Xr, H', ⟨by have := HJ1.out; have := HK2.out; have := HK3.out; first | omega | exact Nat.le_refl _⟩, BK388, BK399, ⟨Xi⟩⟩
 clear HC95
 (try clear c9); (try clear c11); (try clear c11b0); (try clear c70); (try clear c70b0); (try clear hcz10_0); (try clear hcz10_1); (try clear hcz10_2); (try clear hcz69_0); (try clear hcz69_1); (try clear hcz69_2); (try clear hfz10_0); (try clear hfz10_1); (try clear hfz10_2); (try clear hfz69_0); (try clear hfz69_1); (try clear hfz69_2)
 obtain ⟨kq, x125_94, rfl, HA, HJ94, BK388, BK399, HB⟩ := hcut
 cases kq with | zero => cases HA.out | succ kj94 => ?_
 have H := HA.out
 clear HA
 simp only [impl_DocOK.j6] at H
 by_cases c112 : x125_94 = true
 ·subst c112
  (first | rw [if_pos rfl] at H | skip)
  obtain rfl := Option.some.inj H
  go_wp2
  go_ret
  exact ⟨Xe, Xi⟩
 replace c112 := Bool.eq_false_iff.mpr c112
 subst c112
 (first | rw [if_neg (show ¬ (false = true) by decide)] at H | skip)
 obtain ⟨t406, A113, H⟩ := Xbi H
 (try dsimp only at H)
 obtain rfl := Option.some.inj H
 try go_wp2_with (fail)
 replace BK388 := Aside0.mk (blk_drew BK388.out)
 replace BK399 := Aside0.mk (blk_drew BK399.out)
 replace HB := Aside0.mk (below_drew1 HB.out)
 refine start_ (n := 9) (S := fun w' => w'.cell? ⟨gb388, 0, none⟩ = some (.int .i64 a0_0) ∧ w'.cell? ⟨gb388, 1, none⟩ = some (.int .i64 a0_1) ∧ w'.cell? ⟨gb388, 2, none⟩ = some (.slice A0_2 l0_2.length c0_2)) (ds := []) #[false, false, false, false, false, false, false, false, false] (by kernel_rfl) rfl rfl ⟨(blk_cell BK388.out 0).trans rfl, (blk_cell BK388.out 1).trans rfl, (blk_cell BK388.out 2).trans rfl⟩ (fun hHeld => ?_); refine with_tabW impl_DocOK.tab23 impl_DocOK.bits23 (fun HT_ HW_ => ?_)
 generalize wc.drew = w114 at BK388 BK399 HB hHeld ⊢
 refine Xpu 0 126 (XW.bs 9 1) HT_.out ?_
 refine Xpu 4 130 (XW.bs 9 17) HT_.out ?_
 refine Xta 1 127 (XW.bs 9 19) HT_.out HW_.out hHeld ?_
 refine Xta 5 131 (XW.bs 9 51) HT_.out HW_.out hHeld ?_
 refine Xpu 6 132 (XW.bs 9 115) HT_.out ?_
 refine one_ (i := 2) (N := some 128) (XW.bs 9 119) rfl rfl (one_of HT_.out (by kernel_rfl)) (by decide) (fun K hK => ?_)
 refine goes_ Try.func134 (by kernel_rfl) rfl #[.pointer (some ⟨gb388, 0, none⟩), .slice none 0 0, .int .i64 a0_0] (by rfl) rfl rfl (by (try simp only [List.map_toArray, List.map_cons, List.map_nil]); first | done | rfl | (simp only [List.length_drop, List.length_take]; rfl)) ?_
 refine (impl_Doc_order.calls kj94 gb388 a0_0 a0_1 A0_2 c0_2 l0_2 (fun k_ => some k_ = (.slice none 0 0 : Value).ownBlock) (.slice none 0 0) ([] : List Int) a0_0 t406 w _ ?side1 ?side2 ?side3 ?side4 ?side5 A113.out).mono ?_
 (case side1 => exact Xi)
 (case side2 => exact BK388.out)
 (case side3 => exact Kd.C_kept_came k103_heap HR0_2.out Xi (fun k_ hs_ => (fun e_ => by simp [Value.ownBlock] at e_) hs_))
 (case side4 => exact HC0_2.out)
 (case side5 => exact Kd.R_nil _ _ _ _ _)
 rintro e w115 ⟨v407, rfl, ho0, hb, hkp⟩
 refine ⟨_, rfl, ?_⟩
 replace BK388 := Aside0.mk (blk_kept BK388.out hkp (fun hs_ => (fun e_ => by simp [Value.ownBlock] at e_) hs_))
 replace BK399 := Aside0.mk (blk_kept BK399.out hkp (fun hs_ => (fun e_ => by simp [Value.ownBlock] at e_) hs_))
 have HO408 := Aside0.mk (Kd.R_mono (ok' := fun k_ => True) ho0 (fun k_ hk_ => trivial))
 replace HB := Aside0.mk (hb)
 (try clear hb)
 (try clear hkp)
 (try clear ho0)
 obtain ⟨Ao116, co116, eo116⟩ := Kd.R_slice HO408.out
 (first | subst eo116 | (injection eo116 with f1_ f2_ f3_; have f4_ := f1_.symm; have f5_ := f3_.symm; clear f1_ f2_ f3_; subst f4_; subst f5_))
 refine hK.out _ _ ⟨(blk_cell BK388.out 0).trans rfl, (blk_cell BK388.out 1).trans rfl, (blk_cell BK388.out 2).trans rfl⟩ (fun hHeld => ?_)
 clear hK K
 refine Xno ?_
 refine Xpu 3 129 (XW.bs 9 127) HT_.out ?_
 refine Xpu 7 133 (XW.bs 9 255) HT_.out ?_
 refine Xpu 8 2 (XW.bs 9 511) HT_.out ?_
 refine done_ (done_of HT_.out (by kernel_rfl)) ?_
 try go_wp2_with (fail)
 go_ret
 exact ⟨Xe, Xi⟩
def impl_nodeCode.f (k : Nat) (a0_0 : Int) (a0_1 : Int) (l0_2 : List (S103)) (a1 : Int) : Option (Int) := (impl_DocOK.f k a0_0 a0_1 l0_2).bind fun t410 => (if t410 = true then ((impl_Doc_has.f k a0_0 a0_1 l0_2 a1).bind fun t411 => (if t411 = true then (some 0) else (some 5))) else (some 1))
theorem impl_nodeCode.calls (k : Nat) (a0_0 : Int) (a0_1 : Int) (A0_2 : Option Addr) (c0_2 : Nat) (l0_2 : List (S103)) (a1 : Int) (r : Int) (w : World) (hr0_2 : Kd.C k103 w A0_2 l0_2.length l0_2) (hc0_2 : l0_2.length ≤ c0_2) (h : impl_nodeCode.f k a0_0 a0_1 l0_2 a1 = some r) :
  Calls Try.prog 79 #[.agg #[.int .i64 a0_0, .int .i64 a0_1, .slice A0_2 l0_2.length c0_2], .int .i64 a1] w fun e w' => e = .returned (.int .i64 r) ∧ Below w.heap.size w w' := by
 have hu65 := Try.underlying65
 have HR0_2 := Aside0.mk hr0_2
 have HC0_2 := Aside0.mk hc0_2
 clear hr0_2 hc0_2
 have HB := Aside0.mk (Below.refl w.heap.size w)
 have H : ((impl_DocOK.f k a0_0 a0_1 l0_2).bind fun t410 => (if t410 = true then ((impl_Doc_has.f k a0_0 a0_1 l0_2 a1).bind fun t411 => (if t411 = true then (some 0) else (some 5))) else (some 1))) = some r := h
 clear h
 obtain ⟨t410, A3, H⟩ := Xbi H
 (try dsimp only at H)
 have HC4 := Aside0.mk H
 clear H
 go_enter Try.func79, Try.ntmps79
 go_upto_if 5 with (first | ((with_reducible refine gate_dst (N := 2) rfl ?_); refine Xbox 2 #[.int .i64 a0_0, .int .i64 a0_1, .slice A0_2 l0_2.length c0_2] 65 ?_; intro gb409 hg w5 hbox hb; have BK409 := Aside0.mk (hbox); have GE409 := Xge hg Xi; replace HB := Aside0.mk (below_step Xi hb); clear hb hbox hg; obtain ⟨hcz6_0, hcz6_1, hcz6_2⟩ := Xc3 BK409) | ((with_reducible refine gate_callee (f := 88) rfl ?_); refine Xgo 7 Try.func88 #[.agg #[.int .i64 a0_0, .int .i64 a0_1, .slice A0_2 l0_2.length c0_2]] ?_; (with_reducible refine (impl_DocOK.calls k a0_0 a0_1 _ _ l0_2 t410 _ ?side1 ?side2 A3.out).mono ?_); (case side1 => exact Xc HR0_2); (case side2 => exact HC0_2.out); rintro e w7 ⟨rfl, hb⟩; refine ⟨_, rfl, ?_⟩; replace BK409 := Xbb BK409 hb; replace HB := Aside0.mk (below_step Xi hb); clear hb))
 have H := HC4.out
 clear HC4
 by_cases c8 : t410 = true
 ·subst c8
  (first | rw [if_pos rfl] at H | skip)
  obtain ⟨t411, A9, H⟩ := Xbi H
  (try dsimp only at H)
  have HC10 := Aside0.mk H
  clear H
  go_upto_if 9 with (first | ((with_reducible refine gate_callee (f := 121) rfl ?_); refine Xgo 11 Try.func121 #[.pointer (some ⟨gb409, 0, none⟩), .int .i64 a1] ?_; (with_reducible refine (impl_Doc_has.calls k gb409 a0_0 a0_1 A0_2 c0_2 l0_2 a1 t411 _ ?side1 ?side2 ?side3 A9.out).mono ?_); (case side1 => exact BK409.out); (case side2 => exact Xc HR0_2); (case side3 => exact HC0_2.out); rintro e w11 ⟨rfl, hb⟩; refine ⟨_, rfl, ?_⟩; replace BK409 := Xbb BK409 hb; replace HB := Aside0.mk (below_step Xi hb); clear hb))
  have H := HC10.out
  clear HC10
  by_cases c12 : t411 = true
  ·subst c12
   (first | rw [if_pos rfl] at H | skip)
   obtain rfl := Option.some.inj H
   go_wp2
   go_ret
   exact ⟨Xe, Xi⟩
  replace c12 := Bool.eq_false_iff.mpr c12
  subst c12
  (first | rw [if_neg (show ¬ (false = true) by decide)] at H | skip)
  obtain rfl := Option.some.inj H
  go_wp2
  go_ret
  exact ⟨Xe, Xi⟩
 replace c8 := Bool.eq_false_iff.mpr c8
 subst c8
 (first | rw [if_neg (show ¬ (false = true) by decide)] at H | skip)
 obtain rfl := Option.some.inj H
 go_wp2
 go_ret
 exact ⟨Xe, Xi⟩
def slices_Index_int_int.l0 : Nat → List Int → Int → Int → Int → Option (Int)
 | 0, _, _, _, _ => none
 | k + 1, x0, x1, x7, x8 => if x8 < x7 then (if 0 ≤ x8 then (if x8 < (x0.length : Int) then (if x1 = (rd x0 x8) then (some x8) else (slices_Index_int_int.l0 k x0 x1 x7 (wrap64 (x8 + 1)))) else (none)) else (none)) else (some (-1))
def slices_Index_int_int.f (k : Nat) (l0 : List Int) (a1 : Int) : Option (Int) := slices_Index_int_int.l0 k l0 a1 (l0.length : Int) 0
theorem slices_Index_int_int.calls (k : Nat) (A0 : Option Addr) (c0 : Nat) (l0 : List Int) (a1 : Int) (r : Int) (w : World) (hr0 : Kd.C (Kd.int .i64) w A0 l0.length l0) (hc0 : l0.length ≤ c0) (h : slices_Index_int_int.f k l0 a1 = some r) :
  Calls Try.prog 103 #[.slice A0 l0.length c0, .int .i64 a1] w fun e w' => e = .returned (.int .i64 r) ∧ Drawn0 w w' := by
 have HR0 := Aside0.mk hr0
 have HC0 := Aside0.mk hc0
 clear hr0 hc0
 have H : (slices_Index_int_int.l0 k l0 a1 (l0.length : Int) 0) = some r := h
 clear h
 have H' := Aside0.mk H
 clear H
 go_enter Try.func103, Try.ntmps103
 go_wp2
 go_loopg [8] k (fun kq v8 w' => ∃ (x8_1 : Int), v8 = .int .i64 x8_1 ∧ Aside0 (slices_Index_int_int.l0 kq l0 a1 (l0.length : Int) x8_1 = some r) ∧ Aside0 (kq ≤ k) ∧ Drawn0 w w')
 case atStart => exact ⟨(0), Xr, H', Xkr, by repeat (first | exact Drawn0.refl _ | apply Drawn0.step)⟩
 clear H'
 obtain ⟨x8_1, rfl, HA, HK1, ⟨m1, rfl⟩⟩ := hrel
 cases gk with | zero => cases HA.out | succ k1 => ?_
 have H := HA.out
 clear HA
 simp only [slices_Index_int_int.l0] at H
 obtain ⟨c3b0, H⟩ | ⟨c3b0, H⟩ := Xit H
 ·obtain ⟨c4b0, H⟩ := Xid H
  obtain ⟨c5b0, H⟩ := Xid H
  obtain ⟨c6, H⟩ | ⟨c6, H⟩ := Xiu H
  ·have c6b0 : (a1 == (rd l0 x8_1)) = true := beq_iff_eq.mpr c6
   have c6b1 : (a1 != (rd l0 x8_1)) = false := bne_eq_false_iff_eq.mpr c6
   clear c6
   obtain rfl := Option.some.inj H
   have p412 : 0 ≤ (x8_1 : Int) := of_decide_eq_true Xa
   have q412 : x8_1 < (l0.length : Int) := of_decide_eq_true Xa
   obtain ⟨ad412, e412, hx412_0⟩ := Kd.at_int HR0.out x8_1 p412 q412
   cases e412
   replace p412 := eq_true p412
   replace q412 := eq_true q412
   go_wp2
   go_ret
   exact ⟨Xr, Xdr⟩
  have c6b0 : (a1 == (rd l0 x8_1)) = false := beq_eq_false_iff_ne.mpr c6
  have c6b1 : (a1 != (rd l0 x8_1)) = true := bne_iff_ne.mpr c6
  have H' := Aside0.mk H
  clear H
  have p412 : 0 ≤ (x8_1 : Int) := of_decide_eq_true Xa
  have q412 : x8_1 < (l0.length : Int) := of_decide_eq_true Xa
  obtain ⟨ad412, e412, hx412_0⟩ := Kd.at_int HR0.out x8_1 p412 q412
  cases e412
  replace p412 := eq_true p412
  replace q412 := eq_true q412
  go_wp2
  go_roundg k1
  case measure => have := HK1.out; omega
  case rel => exact ⟨(wrap64 (x8_1 + 1)), Xr, H', Xk1, by repeat (first | exact Drawn0.refl _ | apply Drawn0.step)⟩
 obtain rfl := Option.some.inj H
 go_wp2
 go_ret
 exact ⟨Xr, Xdr⟩
def slices_Contains_int_int.f (k : Nat) (l0 : List Int) (a1 : Int) : Option (Bool) := (slices_Index_int_int.f k l0 a1).bind fun t413 => (some (decide (t413 ≥ 0)))
theorem slices_Contains_int_int.calls (k : Nat) (A0 : Option Addr) (c0 : Nat) (l0 : List Int) (a1 : Int) (r : Bool) (w : World) (hr0 : Kd.C (Kd.int .i64) w A0 l0.length l0) (hc0 : l0.length ≤ c0) (h : slices_Contains_int_int.f k l0 a1 = some r) :
  Calls Try.prog 135 #[.slice A0 l0.length c0, .int .i64 a1] w fun e w' => e = .returned (.bool r) ∧ Drawn0 w w' := by
 have HR0 := Aside0.mk hr0
 have HC0 := Aside0.mk hc0
 clear hr0 hc0
 have H : ((slices_Index_int_int.f k l0 a1).bind fun t413 => (some (decide (t413 ≥ 0)))) = some r := h
 clear h
 obtain ⟨t413, A3, H⟩ := Xbi H
 (try dsimp only at H)
 obtain rfl := Option.some.inj H
 go_enter Try.func135, Try.ntmps135
 go_wp2_with (first | ((with_reducible refine gate_callee (f := 103) rfl ?_); refine Xgo 7 Try.func103 #[.slice A0 l0.length c0, .int .i64 a1] ?_; (with_reducible refine (slices_Index_int_int.calls k _ _ l0 a1 t413 _ ?side1 ?side2 A3.out).mono ?_); (case side1 => repeat (first | exact HR0.out | (with_reducible first | refine Kd.C_alloc ?_ _ | refine Kd.C_drewN ?_ _ | refine Kd.C_drew ?_))); (case side2 => exact HC0.out); rintro e w' ⟨rfl, ⟨nd, rfl⟩⟩; refine ⟨_, rfl, ?_⟩))
 go_ret
 exact ⟨Xr, Xdr⟩
mutual
def impl_matches.j0 : Nat → List (S78) → List Int → Int → Int → Bool → List Int → Int → Option (Bool)
 | 0, _, _, _, _, _, _, _ => none
 | k + 1, x0, x1, x6, x7, x27, x416000, x416001 => if x27 = true then (impl_matches.j1 k x0 x1 0 x7 x416000 x416001) else (impl_matches.j1 k x0 x1 x6 x7 x416000 x416001)
def impl_matches.j1 : Nat → List (S78) → List Int → Int → Int → List Int → Int → Option (Bool)
 | 0, _, _, _, _, _, _ => none
 | k + 1, x0, x1, x6, x7, x416000, x416001 => if x416001 = 0 then (impl_matches.j2 k x0 x1 x6 x7 true x416000 x416001) else (impl_matches.j2 k x0 x1 x6 x7 (x416001 == 1) x416000 x416001)
def impl_matches.j2 : Nat → List (S78) → List Int → Int → Int → Bool → List Int → Int → Option (Bool)
 | 0, _, _, _, _, _, _, _ => none
 | k + 1, x0, x1, x6, x7, x35, x416000, x416001 => if x35 = true then (impl_matches.j3 k x0 x1 x6 (mn x7 1) x416000 x416001) else (impl_matches.j3 k x0 x1 x6 x7 x416000 x416001)
def impl_matches.j3 : Nat → List (S78) → List Int → Int → Int → List Int → Int → Option (Bool)
 | 0, _, _, _, _, _, _ => none
 | k + 1, x0, x1, x6, x7, x416000, x416001 => impl_matches.l0 k x0 x1 x6 x7 0 x416000 x416001
def impl_matches.l0 : Nat → List (S78) → List Int → Int → Int → Int → List Int → Int → Option (Bool)
 | 0, _, _, _, _, _, _, _ => none
 | k + 1, x0, x1, x6, x7, x8, x416000, x416001 => if x8 ≤ x7 then (if x8 > 0 then (if 0 ≤ (wrap64 (x8 - 1)) then (if (wrap64 (x8 - 1)) < (x1.length : Int) then ((slices_Contains_int_int.f k x416000 (rd x1 (wrap64 (x8 - 1)))).bind fun t417 => (impl_matches.j5 k x0 x1 x6 x7 x8 (!t417) x416000 x416001)) else (none)) else (none)) else (impl_matches.j5 k x0 x1 x6 x7 x8 false x416000 x416001)) else (some false)
def impl_matches.j5 : Nat → List (S78) → List Int → Int → Int → Int → Bool → List Int → Int → Option (Bool)
 | 0, _, _, _, _, _, _, _, _ => none
 | k + 1, x0, x1, x6, x7, x8, x55, x416000, x416001 => if x55 = true then (some false) else (if x8 ≥ x6 then (if 1 ≤ (x0.length : Int) then (if 0 ≤ x8 then (if x8 ≤ (x1.length : Int) then ((impl_matches.f k (x0.drop 1) (x1.drop (x8 : Int).toNat)).bind fun t423 => (if t423 = true then (some true) else (impl_matches.l0 k x0 x1 x6 x7 (wrap64 (x8 + 1)) x416000 x416001))) else (none)) else (none)) else (none)) else (impl_matches.l0 k x0 x1 x6 x7 (wrap64 (x8 + 1)) x416000 x416001))
def impl_matches.f : Nat → List (S78) → List Int → Option (Bool)
 | 0, _, _ => none
 | k + 1, l0, l1 => if (l0.length : Int) = 0 then (some ((l1.length : Int) == 0)) else (if 0 < (l0.length : Int) then (if ((rd_T78 l0 0).f1) = 1 then (impl_matches.j0 k l0 l1 1 (l1.length : Int) true ((rd_T78 l0 0).f0) ((rd_T78 l0 0).f1)) else (impl_matches.j0 k l0 l1 1 (l1.length : Int) (((rd_T78 l0 0).f1) == 2) ((rd_T78 l0 0).f0) ((rd_T78 l0 0).f1))) else (none))
end
def impl_matches.T12 : Bool × List (List Nat × List Nat) := (true, [([], []), ([0], [0]), ([1], [1]), ([2], [2]), ([3, 2], [2, 3]), ([2], [2]), ([2], [2]), ([6, 2], [2, 6]), ([5, 7, 2], [2, 5, 7]), ([8, 2], [2, 8]), ([4, 9, 2, 2], [2, 4, 9]), ([10, 2], [2, 10]), ([2, 11], [2, 11])])
def impl_matches.B12 : List Nat := [0, 1, 3, 7, 15, 7, 7, 71, 231, 487, 1023, 2047, 4095]
theorem impl_matches.tab12 : rtab .any (opsOf Try.f124 12) = impl_matches.T12 := by kernel_rfl
theorem impl_matches.bits12 : waitsOk impl_matches.T12.2 impl_matches.B12 = true := by kernel_rfl
def impl_matches.T13 : Bool × List (List Nat × List Nat) := (true, [([], []), ([], []), ([0, 1], [0, 1]), ([2], [2]), ([3], [3]), ([4, 3], [3, 4]), ([3], [3]), ([3], [3]), ([6, 7, 3], [3, 6, 7]), ([5, 8, 3, 3], [3, 5, 8]), ([3, 9], [3, 9])])
def impl_matches.B13 : List Nat := [0, 0, 3, 7, 15, 31, 15, 15, 207, 511, 1023]
theorem impl_matches.tab13 : rtab .any (opsOf Try.f124 13) = impl_matches.T13 := by kernel_rfl
theorem impl_matches.bits13 : waitsOk impl_matches.T13.2 impl_matches.B13 = true := by kernel_rfl
theorem impl_matches.calls (k : Nat) : ∀ (A0 : Option Addr) (c0 : Nat) (l0 : List (S78)) (A1 : Option Addr) (c1 : Nat) (l1 : List Int) (r : Bool) (w : World) (hr0 : Kd.C k78 w A0 l0.length l0) (hc0 : l0.length ≤ c0) (hr1 : Kd.C (Kd.int .i64) w A1 l1.length l1) (hc1 : l1.length ≤ c1) (h : impl_matches.f k l0 l1 = some r),
  Calls Try.prog 124 #[.slice A0 l0.length c0, .slice A1 l1.length c1] w fun e w' => e = .returned (.bool r) ∧ Below w.heap.size w w' := by
 induction k using Nat.strongRecOn with
 | _ k ih =>
 intro A0 c0 l0 A1 c1 l1 r w hr0 hc0 hr1 hc1 h
 cases k with
 | zero => exact absurd h (by simp [impl_matches.f])
 | succ k =>
 simp only [impl_matches.f] at h
 have hu78 := Try.underlying78
 have HR0 := Aside0.mk hr0
 have HC0 := Aside0.mk hc0
 clear hr0 hc0
 have HR1 := Aside0.mk hr1
 have HC1 := Aside0.mk hc1
 clear hr1 hc1
 have HB := Aside0.mk (Below.refl w.heap.size w)
 have H : (if (l0.length : Int) = 0 then (some ((l1.length : Int) == 0)) else (if 0 < (l0.length : Int) then (if ((rd_T78 l0 0).f1) = 1 then (impl_matches.j0 k l0 l1 1 (l1.length : Int) true ((rd_T78 l0 0).f0) ((rd_T78 l0 0).f1)) else (impl_matches.j0 k l0 l1 1 (l1.length : Int) (((rd_T78 l0 0).f1) == 2) ((rd_T78 l0 0).f0) ((rd_T78 l0 0).f1))) else (none))) = some r := h
 clear h
 obtain ⟨c3, H⟩ | ⟨c3, H⟩ := Xiu H
 ·have c3b0 : ((l0.length : Int) == 0) = true := beq_iff_eq.mpr c3
  have c3b1 : ((l0.length : Int) != 0) = false := bne_eq_false_iff_eq.mpr c3
  clear c3
  obtain rfl := Option.some.inj H
  go_enter Try.func124, Try.ntmps124
  go_wp2
  go_ret
  exact ⟨Xe, Xi⟩
 have c3b0 : ((l0.length : Int) == 0) = false := beq_eq_false_iff_ne.mpr c3
 have c3b1 : ((l0.length : Int) != 0) = true := bne_iff_ne.mpr c3
 have c3b2 : ¬ (l0 = []) := fun h_ => c3 (by rw [h_]; rfl)
 obtain ⟨c4, H⟩ | ⟨c4, H⟩ := Xiu H
 ·have c4b0 : decide (0 < (l0.length : Int)) = true := decide_eq_true c4
  have c4b1 : decide (0 < l0.length) = true := decide_eq_true (by omega)
  clear c4
  have HC5 := Aside0.mk H
  clear H
  have p414 : 0 ≤ (0 : Int) := (by omega)
  have q414 : 0 < (l0.length : Int) := of_decide_eq_true Xa
  obtain ⟨ad414, A414_0, c414_0, e414, hx414_0, hx414_1, hl414_0, hi414_0⟩ := at_T78 HR0.out 0 p414 q414
  cases e414
  have qi414 : (0 < l0.length) = True := eq_true (by omega)
  (try rw [show ((0 : Int)).toNat = 0 from rfl] at hx414_0)
  (try rw [show 0 * 2 = 0 from rfl] at hx414_0)
  (try rw [Addr.add_zero'] at hx414_0)
  (try rw [show ((0 : Int)).toNat = 0 from rfl] at hx414_1)
  (try rw [show 0 * 2 = 0 from rfl] at hx414_1)
  (try rw [Addr.add_zero'] at hx414_1)
  have HR414_0 := Aside0.mk hi414_0
  have HC414_0 := Aside0.mk hl414_0
  clear hi414_0 hl414_0
  replace p414 := eq_true p414
  replace q414 := eq_true q414
  go_enter Try.func124, Try.ntmps124
  go_upto_region 5 with (first | ((with_reducible refine gate_dst (N := 5) rfl ?_); refine Xbox 5 #[.slice none 0 0, .int .i64 0] 78 ?_; intro gb415 hg w6 hbox hb; have BK415 := Aside0.mk (hbox); have GE415 := Xge hg Xi; replace HB := Aside0.mk (below_step Xi hb); clear hb hbox hg; obtain ⟨hcz7_0, hcz7_1⟩ := Xc2 BK415; obtain ⟨hfz7_0, hfz7_1⟩ := Xf2 BK415))
  (try simp only [XW.q0, XW.q1, XW.q2])
  go_cut [27] (fun v27 wc => ∃ (kq : Nat) (x27_4 : Bool), v27 = .bool x27_4 ∧ Aside0 (impl_matches.j0 kq l0 l1 1 (l1.length : Int) x27_4 ((rd_T78 l0 0).f0) ((rd_T78 l0 0).f1) = some r) ∧ Aside0 (kq ≤ k) ∧ Aside0 (wc.heap[gb415]? = some (.cells #[(.slice A414_0 ((rd_T78 l0 0).f0).length c414_0), .int .i64 ((rd_T78 l0 0).f1)] 78 (0, 0))) ∧ Aside0 (Below w.heap.size w wc))
  case first =>
   have H := HC5.out
   clear HC5
   obtain ⟨c8, H⟩ | ⟨c8, H⟩ := Xiu H
   ·have c8b0 : (((rd_T78 l0 0).f1) == 1) = true := beq_iff_eq.mpr c8
    have c8b1 : (((rd_T78 l0 0).f1) != 1) = false := bne_eq_false_iff_eq.mpr c8
    clear c8
    (first | rw [c8b0] | (simp only [i64_w, i32_w]; rw [c8b0]) | skip)
    have H' := Aside0.mk H
    clear H
    obtain ⟨hcz9_0, hcz9_1⟩ := Xc2 BK415
    obtain ⟨hfz9_0, hfz9_1⟩ := Xf2 BK415
    go_wp2
    go_meet
    case rel => exact ⟨_, (true), Xr, H', Xko, ⟨by (with_reducible repeat (first | refine blk_drewN ?_ _ | refine blk_drew ?_ | refine blk_alloc ?_ _)); refine blk_put (cs := #[.slice A414_0 ((rd_T78 l0 0).f0).length c414_0, .int .i64 0]) ?_ 1 _ rfl; (with_reducible repeat (first | refine blk_drewN ?_ _ | refine blk_drew ?_ | refine blk_alloc ?_ _)); refine blk_put (cs := #[.slice none 0 0, .int .i64 0]) ?_ 0 _ rfl; (with_reducible repeat (first | refine blk_drewN ?_ _ | refine blk_drew ?_ | refine blk_alloc ?_ _)); exact BK415.out⟩, ⟨Xi⟩⟩
   have c8b0 : (((rd_T78 l0 0).f1) == 1) = false := beq_eq_false_iff_ne.mpr c8
   have c8b1 : (((rd_T78 l0 0).f1) != 1) = true := bne_iff_ne.mpr c8
   (first | rw [c8b0] | (simp only [i64_w, i32_w]; rw [c8b0]) | skip)
   have H' := Aside0.mk H
   clear H
   obtain ⟨hcz10_0, hcz10_1⟩ := Xc2 BK415
   obtain ⟨hfz10_0, hfz10_1⟩ := Xf2 BK415
   go_wp2
   go_meet
   case rel => exact ⟨_, ((((rd_T78 l0 0).f1) == 2)), Xr, H', Xko, ⟨by (with_reducible repeat (first | refine blk_drewN ?_ _ | refine blk_drew ?_ | refine blk_alloc ?_ _)); refine blk_put (cs := #[.slice A414_0 ((rd_T78 l0 0).f0).length c414_0, .int .i64 0]) ?_ 1 _ rfl; (with_reducible repeat (first | refine blk_drewN ?_ _ | refine blk_drew ?_ | refine blk_alloc ?_ _)); refine blk_put (cs := #[.slice none 0 0, .int .i64 0]) ?_ 0 _ rfl; (with_reducible repeat (first | refine blk_drewN ?_ _ | refine blk_drew ?_ | refine blk_alloc ?_ _)); exact BK415.out⟩, ⟨Xi⟩⟩
  clear HC5
  (try clear c1); (try clear c3); (try clear c3b0); (try clear c3b1); (try clear c3b2); (try clear c4); (try clear c4b0); (try clear c4b1); (try clear hcz7_0); (try clear hcz7_1); (try clear hfz7_0); (try clear hfz7_1); (try clear hx414_0); (try clear hx414_1); (try clear p414); (try clear q414)
  obtain ⟨kq, x27_4, rfl, HA, HJ4, BK415, HB⟩ := hcut
  cases kq with | zero => cases HA.out | succ kj4 => ?_
  have H := HA.out
  clear HA
  simp only [impl_matches.j0] at H
  have HC11 := Aside0.mk H
  clear H
  go_upto_if 27 with (fail)
  go_cut [6] (fun v6 wc => ∃ (kq : Nat) (x6_10 : Int), v6 = .int .i64 x6_10 ∧ Aside0 (impl_matches.j1 kq l0 l1 x6_10 (l1.length : Int) ((rd_T78 l0 0).f0) ((rd_T78 l0 0).f1) = some r) ∧ Aside0 (kq ≤ kj4) ∧ Aside0 (wc.heap[gb415]? = some (.cells #[(.slice A414_0 ((rd_T78 l0 0).f0).length c414_0), .int .i64 ((rd_T78 l0 0).f1)] 78 (0, 0))) ∧ Aside0 (Below w.heap.size w wc))
  case first =>
   have H := HC11.out
   clear HC11
   by_cases c12 : x27_4 = true
   ·subst c12
    (first | rw [if_pos rfl] at H | skip)
    have H' := Aside0.mk H
    clear H
    go_wp2
    go_meet
    case rel => exact ⟨_, (0), Xr, H', ⟨by have := HJ4.out; first | omega | exact Nat.le_refl _⟩, BK415, ⟨Xi⟩⟩
   replace c12 := Bool.eq_false_iff.mpr c12
   subst c12
   (first | rw [if_neg (show ¬ (false = true) by decide)] at H | skip)
   have H' := Aside0.mk H
   clear H
   go_wp2
   go_meet
   case rel => exact ⟨_, (1), Xr, H', ⟨by have := HJ4.out; first | omega | exact Nat.le_refl _⟩, BK415, ⟨Xi⟩⟩
  clear HC11
  (try clear c1); (try clear c3); (try clear c3b0); (try clear c3b1); (try clear c3b2); (try clear c4); (try clear c4b0); (try clear c4b1); (try clear hcz7_0); (try clear hcz7_1); (try clear hfz7_0); (try clear hfz7_1); (try clear hx414_0); (try clear hx414_1); (try clear p414); (try clear q414)
  obtain ⟨kq, x6_10, rfl, HA, HJ10, BK415, HB⟩ := hcut
  cases kq with | zero => cases HA.out | succ kj10 => ?_
  have H := HA.out
  clear HA
  simp only [impl_matches.j1] at H
  have HC13 := Aside0.mk H
  clear H
  go_upto_region 7 with (fail)
  go_cut [35] (fun v35 wc => ∃ (kq : Nat) (x35_12 : Bool), v35 = .bool x35_12 ∧ Aside0 (impl_matches.j2 kq l0 l1 x6_10 (l1.length : Int) x35_12 ((rd_T78 l0 0).f0) ((rd_T78 l0 0).f1) = some r) ∧ Aside0 (kq ≤ kj10) ∧ Aside0 (wc.heap[gb415]? = some (.cells #[(.slice A414_0 ((rd_T78 l0 0).f0).length c414_0), .int .i64 ((rd_T78 l0 0).f1)] 78 (0, 0))) ∧ Aside0 (Below w.heap.size w wc))
  case first =>
   have H := HC13.out
   clear HC13
   obtain ⟨c14, H⟩ | ⟨c14, H⟩ := Xiu H
   ·have c14b0 : (((rd_T78 l0 0).f1) == 0) = true := beq_iff_eq.mpr c14
    have c14b1 : (((rd_T78 l0 0).f1) != 0) = false := bne_eq_false_iff_eq.mpr c14
    clear c14
    (first | rw [c14b0] | (simp only [i64_w, i32_w]; rw [c14b0]) | skip)
    have H' := Aside0.mk H
    clear H
    obtain ⟨hcz15_0, hcz15_1⟩ := Xc2 BK415
    obtain ⟨hfz15_0, hfz15_1⟩ := Xf2 BK415
    go_wp2
    go_meet
    case rel => exact ⟨_, (true), Xr, H', ⟨by have := HJ4.out; have := HJ10.out; first | omega | exact Nat.le_refl _⟩, BK415, ⟨Xi⟩⟩
   have c14b0 : (((rd_T78 l0 0).f1) == 0) = false := beq_eq_false_iff_ne.mpr c14
   have c14b1 : (((rd_T78 l0 0).f1) != 0) = true := bne_iff_ne.mpr c14
   (first | rw [c14b0] | (simp only [i64_w, i32_w]; rw [c14b0]) | skip)
   have H' := Aside0.mk H
   clear H
   obtain ⟨hcz16_0, hcz16_1⟩ := Xc2 BK415
   obtain ⟨hfz16_0, hfz16_1⟩ := Xf2 BK415
   go_wp2
   go_meet
   case rel => exact ⟨_, ((((rd_T78 l0 0).f1) == 1)), Xr, H', ⟨by have := HJ4.out; have := HJ10.out; first | omega | exact Nat.le_refl _⟩, BK415, ⟨Xi⟩⟩
  clear HC13
  (try clear c1); (try clear c3); (try clear c3b0); (try clear c3b1); (try clear c3b2); (try clear c4); (try clear c4b0); (try clear c4b1); (try clear hcz7_0); (try clear hcz7_1); (try clear hfz7_0); (try clear hfz7_1); (try clear hx414_0); (try clear hx414_1); (try clear p414); (try clear q414)
  obtain ⟨kq, x35_12, rfl, HA, HJ12, BK415, HB⟩ := hcut
  cases kq with | zero => cases HA.out | succ kj12 => ?_
  have H := HA.out
  clear HA
  simp only [impl_matches.j2] at H
  have HC17 := Aside0.mk H
  clear H
  go_upto_if 35 with (fail)
  go_cut [7] (fun v7 wc => ∃ (kq : Nat) (x7_16 : Int), v7 = .int .i64 x7_16 ∧ Aside0 (impl_matches.j3 kq l0 l1 x6_10 x7_16 ((rd_T78 l0 0).f0) ((rd_T78 l0 0).f1) = some r) ∧ Aside0 (kq ≤ kj12) ∧ Aside0 (wc.heap[gb415]? = some (.cells #[(.slice A414_0 ((rd_T78 l0 0).f0).length c414_0), .int .i64 ((rd_T78 l0 0).f1)] 78 (0, 0))) ∧ Aside0 (Below w.heap.size w wc))
  case first =>
   have H := HC17.out
   clear HC17
   by_cases c18 : x35_12 = true
   ·subst c18
    (first | rw [if_pos rfl] at H | skip)
    obtain ⟨ji19, hji19⟩ : ∃ j_ : Int, (mn (l1.length : Int) 1) = j_ := ⟨_, rfl⟩
    replace H : (impl_matches.j3 kj12 l0 l1 x6_10 ji19 ((rd_T78 l0 0).f0) ((rd_T78 l0 0).f1)) = some r := by first | (rw [hji19] at H; exact H) | (simp only [hji19] at H ⊢; exact H)
    (try (have hji19h : ji19 ≤ 1 := by (rw [← hji19]; unfold mn; (repeat' split) <;> omega)))
    (try (have hji19g : ji19 ≤ 64 := by omega))
    (try (have hji19l : 0 ≤ ji19 := by (rw [← hji19]; unfold mn; (repeat' split) <;> omega)))
    (try (have hji19m : 0 ≤ ji19 := by omega))
    have hji19_ : (if 1 < (l1.length : Int) then 1 else (l1.length : Int)) = ji19 := hji19
    have H' := Aside0.mk H
    clear H
    go_wp2
    go_meet
    case rel => exact ⟨_, (ji19), (by first | rfl | (simp; done) | (simp only [← hji19] <;> (first | rfl | simp)) | (simp [*]; done)), H', ⟨by have := HJ4.out; have := HJ10.out; have := HJ12.out; first | omega | exact Nat.le_refl _⟩, BK415, ⟨Xi⟩⟩
   replace c18 := Bool.eq_false_iff.mpr c18
   subst c18
   (first | rw [if_neg (show ¬ (false = true) by decide)] at H | skip)
   have H' := Aside0.mk H
   clear H
   go_wp2
   go_meet
   case rel => exact ⟨_, ((l1.length : Int)), Xr, H', ⟨by have := HJ4.out; have := HJ10.out; have := HJ12.out; first | omega | exact Nat.le_refl _⟩, BK415, ⟨Xi⟩⟩
  clear HC17
  (try clear c1); (try clear c3); (try clear c3b0); (try clear c3b1); (try clear c3b2); (try clear c4); (try clear c4b0); (try clear c4b1); (try clear hcz7_0); (try clear hcz7_1); (try clear hfz7_0); (try clear hfz7_1); (try clear hx414_0); (try clear hx414_1); (try clear p414); (try clear q414)
  obtain ⟨kq, x7_16, rfl, HA, HJ16, BK415, HB⟩ := hcut
  cases kq with | zero => cases HA.out | succ kj16 => ?_
  have H := HA.out
  clear HA
  simp only [impl_matches.j3] at H
  have H' := Aside0.mk H
  clear H
  go_wp2
  go_loopg [8] kj16 (fun kq v8 w' => ∃ (x8_5 : Int), v8 = .int .i64 x8_5 ∧ Aside0 (impl_matches.l0 kq l0 l1 x6_10 x7_16 x8_5 ((rd_T78 l0 0).f0) ((rd_T78 l0 0).f1) = some r) ∧ Aside0 (kq ≤ kj16) ∧ Aside0 (w'.heap[gb415]? = some (.cells #[(.slice A414_0 ((rd_T78 l0 0).f0).length c414_0), .int .i64 ((rd_T78 l0 0).f1)] 78 (0, 0))) ∧ Aside0 (Below w.heap.size w w'))
  case atStart => exact ⟨(0), Xr, H', Xkr, BK415, ⟨Xi⟩⟩
  clear H'
  (try clear c1); (try clear c3); (try clear c3b0); (try clear c3b1); (try clear c3b2); (try clear c4); (try clear c4b0); (try clear c4b1); (try clear hcz7_0); (try clear hcz7_1); (try clear hfz7_0); (try clear hfz7_1); (try clear hx414_0); (try clear hx414_1); (try clear p414); (try clear q414)
  obtain ⟨x8_5, rfl, HA, HK5, BK415, HB⟩ := hrel
  cases gk with | zero => cases HA.out | succ k5 => ?_
  have H := HA.out
  clear HA
  simp only [impl_matches.l0] at H
  obtain ⟨c20b0, H⟩ | ⟨c20b0, H⟩ := Xit H
  ·have HC21 := Aside0.mk H
   clear H
   go_upto_region 12 with (fail)
   go_cut [55] (fun v55 wc => ∃ (kq : Nat) (x55_20 : Bool), v55 = .bool x55_20 ∧ Aside0 (impl_matches.j5 kq l0 l1 x6_10 x7_16 x8_5 x55_20 ((rd_T78 l0 0).f0) ((rd_T78 l0 0).f1) = some r) ∧ Aside0 (kq ≤ k5) ∧ Aside0 (wc.heap[gb415]? = some (.cells #[(.slice A414_0 ((rd_T78 l0 0).f0).length c414_0), .int .i64 ((rd_T78 l0 0).f1)] 78 (0, 0))) ∧ Aside0 (Below w.heap.size w wc))
   case first =>
    have H := HC21.out
    clear HC21
    obtain ⟨c22, H⟩ | ⟨c22, H⟩ := Xiu H
    ·have c22b0 : decide (0 < x8_5) = true := decide_eq_true c22
     clear c22
     (first | rw [c22b0] | (simp only [i64_w, i32_w]; rw [c22b0]) | skip)
     obtain ⟨ji23, hji23⟩ : ∃ j_ : Int, (wrap64 (x8_5 - 1)) = j_ := ⟨_, rfl⟩
     replace H : (if 0 ≤ (ji23) then (if (ji23) < (l1.length : Int) then ((slices_Contains_int_int.f k5 ((rd_T78 l0 0).f0) (rd l1 (ji23))).bind fun t417 => (impl_matches.j5 k5 l0 l1 x6_10 x7_16 x8_5 (!t417) ((rd_T78 l0 0).f0) ((rd_T78 l0 0).f1))) else (none)) else (none)) = some r := by first | (rw [hji23] at H; exact H) | (simp only [hji23] at H ⊢; exact H)
     have hji23w : (IntKind.i64.wrap (x8_5 - 1)) = ji23 := (i64_w _).trans hji23
     obtain ⟨c24b0, H⟩ := Xid H
     obtain ⟨c25b0, H⟩ := Xid H
     obtain ⟨t417, A26, H⟩ := Xbi H
     (try dsimp only at H)
     have H' := Aside0.mk H
     clear H
     try go_wp2_with (fail)
     replace BK415 := Aside0.mk (blk_drew BK415.out)
     replace HB := Aside0.mk (below_drew1 HB.out)
     have p416 : 0 ≤ ((ji23) : Int) := of_decide_eq_true Xa
     have q416 : (ji23) < (l1.length : Int) := of_decide_eq_true Xa
     obtain ⟨ad416, e416, hx416_0⟩ := Kd.at_int HR1.out (ji23) p416 q416
     have hw416_0 := hx416_0
     cases e416
     replace hx416_0 := Xm HB hx416_0
     replace p416 := eq_true p416
     replace q416 := eq_true q416
     refine start_ (n := 13) (S := fun w' => w'.cell? ⟨gb415, 0, none⟩ = some (.slice A414_0 ((rd_T78 l0 0).f0).length c414_0) ∧ w'.cell? ⟨gb415, 1, none⟩ = some (.int .i64 ((rd_T78 l0 0).f1)) ∧ w'.cell? (ad416.add ((ji23)).toNat) = some (.int .i64 (rd l1 (ji23)))) (ds := []) #[false, false, false, false, false, false, false, false, false, false, false, false, false] (by kernel_rfl) rfl rfl ⟨(blk_cell BK415.out 0).trans rfl, (blk_cell BK415.out 1).trans rfl, Xn hw416_0⟩ (fun hHeld => ?_); refine with_tabW impl_matches.tab12 impl_matches.bits12 (fun HT_ HW_ => ?_)
     generalize wr.drew = w27 at BK415 HB hx416_0 hHeld ⊢
     refine Xpu 0 43 (XW.bs 13 1) HT_.out ?_
     refine Xpu 1 44 (XW.bs 13 3) HT_.out ?_
     refine Xpu 2 45 (XW.bs 13 7) HT_.out ?_
     refine Xpu 3 46 (XW.bs 13 15) HT_.out ?_
     refine Xpu 5 48 (XW.bs 13 47) HT_.out ?_
     refine Xpu 6 49 (XW.bs 13 111) HT_.out ?_
     refine Xpu 7 50 (XW.bs 13 239) HT_.out ?_
     refine Xpu 8 51 (XW.bs 13 495) HT_.out ?_
     refine Xta 4 47 (XW.bs 13 511) HT_.out HW_.out hHeld ?_
     refine Xta 9 52 (XW.bs 13 1023) HT_.out HW_.out hHeld ?_
     refine one_ (i := 10) (N := some 53) (XW.bs 13 2047) rfl rfl (one_of HT_.out (by kernel_rfl)) (by decide) (fun K hK => ?_)
     refine goes_ Try.func135 (by kernel_rfl) rfl #[.slice A414_0 ((rd_T78 l0 0).f0).length c414_0, .int .i64 (rd l1 (ji23))] (by rfl) rfl rfl (by (try simp only [List.map_toArray, List.map_cons, List.map_nil]); first | done | (simp only [hji23]; rfl) | rfl | (simp only [List.length_drop, List.length_take]; rfl)) ?_
     with_reducible refine (slices_Contains_int_int.calls k5 _ _ ((rd_T78 l0 0).f0) (rd l1 (ji23)) t417 _ ?side1 ?side2 A26.out).mono ?_
     (case side1 => exact Xc HR414_0)
     (case side2 => exact HC414_0.out)
     rintro e w' ⟨rfl, ⟨nd, rfl⟩⟩
     refine ⟨_, rfl, ?_⟩
     refine hK.out _ _ ⟨(blk_cell BK415.out 0).trans rfl, (blk_cell BK415.out 1).trans rfl, Xn hw416_0⟩ (fun hHeld => ?_)
     clear hK K
     refine Xno ?_
     refine Xpu 11 54 (XW.bs 13 4095) HT_.out ?_
     refine Xpu 12 55 (XW.bs 13 8191) HT_.out ?_
     refine done_ (done_of HT_.out (by kernel_rfl)) ?_
     try go_wp2_with (fail)
     go_meet
     case rel => exact ⟨_, (!t417), Xr, H', ⟨by have := HJ4.out; have := HJ10.out; have := HJ12.out; have := HJ16.out; have := HK5.out; first | omega | exact Nat.le_refl _⟩, BK415, ⟨Xi⟩⟩
    have c22b0 : decide (0 < x8_5) = false := decide_eq_false c22
    clear c22
    (first | rw [c22b0] | (simp only [i64_w, i32_w]; rw [c22b0]) | skip)
    have H' := Aside0.mk H
    clear H
    try go_wp2_with (fail)
    replace BK415 := Aside0.mk (blk_drew BK415.out)
    replace HB := Aside0.mk (below_drew1 HB.out)
    refine start_ (n := 13) (S := fun w' => True) (ds := []) #[false, false, false, false, false, false, false, false, false, false, false, false, false] (by kernel_rfl) rfl rfl trivial (fun hHeld => ?_); refine with_tabW impl_matches.tab12 impl_matches.bits12 (fun HT_ HW_ => ?_)
    generalize wr.drew = w28 at BK415 HB hHeld ⊢
    refine Xpu 0 43 (XW.bs 13 1) HT_.out ?_
    refine Xpu 1 44 (XW.bs 13 3) HT_.out ?_
    refine Xpu 2 45 (XW.bs 13 7) HT_.out ?_
    refine Xpn 3 46 (XW.bs 13 15) HT_.out ?_
    refine Xpn 4 47 (XW.bs 13 31) HT_.out ?_
    refine Xpn 5 48 (XW.bs 13 63) HT_.out ?_
    refine Xpn 6 49 (XW.bs 13 127) HT_.out ?_
    refine Xpn 7 50 (XW.bs 13 255) HT_.out ?_
    refine Xpn 8 51 (XW.bs 13 511) HT_.out ?_
    refine Xpn 9 52 (XW.bs 13 1023) HT_.out ?_
    refine Xpn 10 53 (XW.bs 13 2047) HT_.out ?_
    refine Xpn 11 54 (XW.bs 13 4095) HT_.out ?_
    refine Xpu 12 55 (XW.bs 13 8191) HT_.out ?_
    refine done_ (done_of HT_.out (by kernel_rfl)) ?_
    try go_wp2_with (fail)
    go_meet
    case rel => exact ⟨_, (false), Xr, H', ⟨by have := HJ4.out; have := HJ10.out; have := HJ12.out; have := HJ16.out; have := HK5.out; first | omega | exact Nat.le_refl _⟩, BK415, ⟨Xi⟩⟩
   clear HC21
   (try clear c1); (try clear c3); (try clear c3b0); (try clear c3b1); (try clear c3b2); (try clear c4); (try clear c4b0); (try clear c4b1); (try clear c20); (try clear c20b0); (try clear hcz7_0); (try clear hcz7_1); (try clear hfz7_0); (try clear hfz7_1); (try clear hx414_0); (try clear hx414_1); (try clear p414); (try clear q414)
   obtain ⟨kq, x55_20, rfl, HA, HJ20, BK415, HB⟩ := hcut
   cases kq with | zero => cases HA.out | succ kj20 => ?_
   have H := HA.out
   clear HA
   simp only [impl_matches.j5] at H
   by_cases c29 : x55_20 = true
   ·subst c29
    (first | rw [if_pos rfl] at H | skip)
    obtain rfl := Option.some.inj H
    go_wp2
    go_ret
    exact ⟨Xe, Xi⟩
   replace c29 := Bool.eq_false_iff.mpr c29
   subst c29
   (first | rw [if_neg (show ¬ (false = true) by decide)] at H | skip)
   obtain ⟨c30, H⟩ | ⟨c30, H⟩ := Xiu H
   ·have c30b0 : decide (x6_10 ≤ x8_5) = true := decide_eq_true c30
    clear c30
    obtain ⟨c31, H⟩ := Xif H
    have c31b0 := eq_true c31
    have c31b1 : decide (1 ≤ (l0.length : Int)) = true := decide_eq_true c31
    clear c31
    obtain ⟨y418, hy418⟩ : ∃ y_ : List (S78), y_ = (l0.drop 1) := ⟨_, rfl⟩
    replace H : (if 0 ≤ x8_5 then (if x8_5 ≤ (l1.length : Int) then ((impl_matches.f kj20 y418 (l1.drop (x8_5 : Int).toNat)).bind fun t423 => (if t423 = true then (some true) else (impl_matches.l0 kj20 l0 l1 x6_10 x7_16 (wrap64 (x8_5 + 1)) ((rd_T78 l0 0).f0) ((rd_T78 l0 0).f1)))) else (none)) else (none)) = some r := by first | (rw [hy418]; with_reducible exact H) | (have H2_ := (Option.bind_some _ _).symm.trans H; rw [hy418]; with_reducible exact H2_) | (have H2_ := (Option.bind_some _ _).symm.trans H; with_reducible exact H2_) | with_reducible exact H | (rw [hy418]; exact H) | exact H
    have Ny418 := Aside0.mk hy418
    clear hy418
    obtain ⟨c32, H⟩ := Xif H
    have c32b0 := eq_true c32
    have c32b1 : decide (0 ≤ x8_5) = true := decide_eq_true c32
    clear c32
    obtain ⟨c33, H⟩ := Xif H
    have c33b0 := eq_true c33
    have c33b1 : decide (x8_5 ≤ (l1.length : Int)) = true := decide_eq_true c33
    clear c33
    obtain ⟨t423, A34, H⟩ := Xbi H
    (try dsimp only at H)
    have HC35 := Aside0.mk H
    clear H
    try go_wp2_with (fail)
    replace BK415 := Aside0.mk (blk_drew BK415.out)
    replace HB := Aside0.mk (below_drew1 HB.out)
    have q37 : (1 : Int) ≤ ((l0.length : Int) : Int) := of_decide_eq_true Xa
    obtain ⟨i037, hi037, _, hsz37, _⟩ := info_parts info78
    have hroom37 : l0.length ≤ c0 := HC0.out
    have hC37 : Kd.C k78 _ (some ad414) l0.length l0 := HR0.out
    have hcut37 := cut_from (P := Try.prog) 30 78 .i64 Try.underlying30 hi037 2 hsz37 (some ad414) l0.length c0 1 (by omega) q37
    have hr37 := Kd.C_drop (m := (1 : Int).toNat) (c := c0) hC37 (by omega) hroom37
    obtain ⟨A37, hA37⟩ : ∃ A1, A1 = (if c0 = (1 : Int).toNat then (some ad414) else ((some ad414) : Option Addr).map (·.add ((1 : Int).toNat * 2))) := ⟨_, rfl⟩
    obtain ⟨c37, hc37⟩ : ∃ c1, c1 = c0 - (1 : Int).toNat := ⟨_, rfl⟩
    have hy37 : y418.length = l0.length - (1 : Int).toNat := (by rw [Ny418.out, List.length_drop] <;> omega)
    rw [show (l0).drop (1 : Int).toNat = y418 from Ny418.out.symm] at hr37
    replace hr37 : Kd.C k78 _ A37 y418.length y418 := (by rw [hA37]; exact hr37)
    rw [← hy37, ← hA37, ← hc37] at hcut37
    have HR421 := Aside0.mk hr37
    have HC421 := Aside0.mk (show y418.length ≤ c37 from by rw [hy37, hc37]; exact Nat.sub_le_sub_right hroom37 _)
    clear hr37 hC37 hroom37 hi037 hsz37 hc37
    have KY37 := Aside0.mk hy37
    have KA37 := Aside0.mk hA37
    clear hy37 hA37
    replace q37 := eq_true q37
    obtain ⟨i038, hi038, _, hsz38, _⟩ := info_parts info3
    obtain ⟨A38, hcut38, hA38, hC38⟩ := print_drop_of (P := Try.prog) (Value.int .i64) 0 39 3 .i64 Try.underlying39 hi038 hsz38 A1 c1 l1 x8_5 (of_decide_eq_true Xa) (of_decide_eq_true Xa) HC1.out
    have HR422 := Aside0.mk (Kd.C_of_reads (h1 := fun _ => rfl) (hA38 _ (Kd.reads_of_C HR1.out)))
    have HC422 := Aside0.mk hC38
    clear hA38 hC38 hi038 hsz38
    refine start_ (n := 11) (S := fun w' => True) (ds := []) #[false, false, false, false, false, false, false, false, false, false, false] (by kernel_rfl) rfl rfl trivial (fun hHeld => ?_); refine with_tabW impl_matches.tab13 impl_matches.bits13 (fun HT_ HW_ => ?_)
    generalize wc.drew = w36 at BK415 HB HR421 HR422 hHeld ⊢
    refine Xpu 0 56 (XW.bs 11 1) HT_.out ?_
    refine Xpu 1 57 (XW.bs 11 3) HT_.out ?_
    refine Xpu 2 58 (XW.bs 11 7) HT_.out ?_
    refine Xpu 3 59 (XW.bs 11 15) HT_.out ?_
    refine Xpu 4 60 (XW.bs 11 31) HT_.out ?_
    refine Xpu 5 61 (XW.bs 11 63) HT_.out ?_
    refine Xpu 6 62 (XW.bs 11 127) HT_.out ?_
    refine Xpu 7 63 (XW.bs 11 255) HT_.out ?_
    refine Xpu 8 64 (XW.bs 11 511) HT_.out ?_
    refine one_ (i := 9) (N := some 65) (XW.bs 11 1023) rfl rfl (one_of HT_.out (by kernel_rfl)) (by decide) (fun K hK => ?_)
    refine goes_ Try.func124 (by kernel_rfl) rfl #[.slice A37 y418.length c37, .slice A38 (l1.drop (x8_5 : Int).toNat).length (c1 - x8_5.toNat)] (by rfl) rfl rfl (by (try simp only [List.map_toArray, List.map_cons, List.map_nil]); first | done | (rw [show (l1.drop (x8_5 : Int).toNat).length = (l1.length - x8_5.toNat) from List.length_drop] <;> rfl) | rfl | (simp only [List.length_drop, List.length_take]; rfl)) ?_
    with_reducible refine (ih kj20 (by have := HJ4.out; have := HJ10.out; have := HJ12.out; have := HJ16.out; have := HK5.out; have := HJ20.out; omega) _ _ y418 _ _ (l1.drop (x8_5 : Int).toNat) t423 _ ?side1 ?side2 ?side3 ?side4 A34.out).mono ?_
    (case side1 => exact Xc HR421)
    (case side2 => exact HC421.out)
    (case side3 => exact Xc HR422)
    (case side4 => exact HC422.out)
    rintro e w39 ⟨rfl, hb⟩
    refine ⟨_, rfl, ?_⟩
    replace BK415 := Xbb BK415 hb
    replace HB := Aside0.mk (below_step Xi hb)
    (try clear hb)
    (try clear hb2)
    (try clear hk)
    (try clear hi)
    refine hK.out _ _ trivial (fun hHeld => ?_)
    clear hK K
    refine Xno ?_
    refine Xpu 10 66 (XW.bs 11 2047) HT_.out ?_
    refine done_ (done_of HT_.out (by kernel_rfl)) ?_
    go_upto_if 66 with (fail)
    have H := HC35.out
    clear HC35
    by_cases c40 : t423 = true
    ·subst c40
     (first | rw [if_pos rfl] at H | skip)
     obtain rfl := Option.some.inj H
     go_wp2
     go_ret
     exact ⟨Xe, Xi⟩
    replace c40 := Bool.eq_false_iff.mpr c40
    subst c40
    (first | rw [if_neg (show ¬ (false = true) by decide)] at H | skip)
    have H' := Aside0.mk H
    clear H
    go_wp2
    go_roundg kj20
    case measure => have := HJ4.out; have := HJ10.out; have := HJ12.out; have := HJ16.out; have := HK5.out; have := HJ20.out; omega
    case rel => exact ⟨(wrap64 (x8_5 + 1)), Xr, H', ⟨by have := HJ4.out; have := HJ10.out; have := HJ12.out; have := HJ16.out; have := HK5.out; have := HJ20.out; omega⟩, BK415, ⟨Xi⟩⟩
   have c30b0 : decide (x6_10 ≤ x8_5) = false := decide_eq_false c30
   clear c30
   have H' := Aside0.mk H
   clear H
   try go_wp2_with (fail)
   replace BK415 := Aside0.mk (blk_drew BK415.out)
   replace HB := Aside0.mk (below_drew1 HB.out)
   refine start_ (n := 11) (S := fun w' => True) (ds := []) #[false, false, false, false, false, false, false, false, false, false, false] (by kernel_rfl) rfl rfl trivial (fun hHeld => ?_); refine with_tabW impl_matches.tab13 impl_matches.bits13 (fun HT_ HW_ => ?_)
   generalize wc.drew = w41 at BK415 HB hHeld ⊢
   refine Xpu 0 56 (XW.bs 11 1) HT_.out ?_
   refine Xpu 1 57 (XW.bs 11 3) HT_.out ?_
   refine Xpu 2 58 (XW.bs 11 7) HT_.out ?_
   refine Xpu 3 59 (XW.bs 11 15) HT_.out ?_
   refine Xpn 4 60 (XW.bs 11 31) HT_.out ?_
   refine Xpn 5 61 (XW.bs 11 63) HT_.out ?_
   refine Xpn 6 62 (XW.bs 11 127) HT_.out ?_
   refine Xpn 7 63 (XW.bs 11 255) HT_.out ?_
   refine Xpn 8 64 (XW.bs 11 511) HT_.out ?_
   refine Xpn 9 65 (XW.bs 11 1023) HT_.out ?_
   refine Xpu 10 66 (XW.bs 11 2047) HT_.out ?_
   refine done_ (done_of HT_.out (by kernel_rfl)) ?_
   try go_wp2_with (fail)
   go_roundg kj20
   case measure => have := HJ4.out; have := HJ10.out; have := HJ12.out; have := HJ16.out; have := HK5.out; have := HJ20.out; omega
   case rel => exact ⟨(wrap64 (x8_5 + 1)), Xr, H', ⟨by have := HJ4.out; have := HJ10.out; have := HJ12.out; have := HJ16.out; have := HK5.out; have := HJ20.out; omega⟩, BK415, ⟨Xi⟩⟩
  obtain rfl := Option.some.inj H
  go_wp2
  go_ret
  exact ⟨Xe, Xi⟩
 exact absurd H (by simp)
end Go.Proofs.Ythkbgbkglgmpoaa.XA
section
namespace Go.Proofs.Ythkbgbkglgmpoaa.XA
set_option linter.unusedVariables false
open Go.Lib Go.RowKit Go.Proofs.YthkbgbkglgmpoaaW.PrintWords Go.Proofs.YthkbgbkglgmpoaaW.PrintLast Go.Proofs.YthkbgbkglgmpoaaW.PrintMore
theorem infoClone : (Try.prog.info? 3).map (fun i => (i.zero, i.size, i.bytes)) = some (some (.int .i64 0), 1, 8) := by kernel_rfl
def slices_Clone_int.f (l0 : List Int) : Option (List Int) := if l0.length < 17592186044416 then some l0 else none
set_option maxHeartbeats 8000000 in
set_option maxRecDepth 100000 in
theorem slices_Clone_int.calls (A0 : Option Addr) (c0 : Nat) (l0 : List Int) (r : List Int) (w : World) (hr0 : Kd.C (Kd.int .i64) w A0 l0.length l0) (hc0 : l0.length ≤ c0) (h : slices_Clone_int.f l0 = some r) :
    Calls Try.prog 112 #[.slice A0 l0.length c0] w fun e w' => ∃ v0_ : Value, e = .returned (v0_) ∧ Kd.R (Kd.int .i64) 3 w' w.heap.size (fun _ => True) v0_ r ∧ Below w.heap.size w w' := by
  have HB := Aside0.mk (Below.refl w.heap.size w)
  have h0 : l0.length < 17592186044416 ∧ l0 = r := by
    unfold slices_Clone_int.f at h
    by_cases p : l0.length < 17592186044416
    · rw [if_pos p] at h; exact ⟨p, Option.some.inj h⟩
    · rw [if_neg p] at h; cases h
  obtain ⟨hl, rfl⟩ := h0
  clear h
  cases A0 with
  | none =>
    have hn : l0 = [] := by
      obtain ⟨_, _, h3⟩ := hr0
      cases l0 with
      | nil => rfl
      | cons x xs => obtain ⟨_, e, _⟩ := h3 (by simp); cases e
    subst hn
    clear hr0
    have hq : ∀ w, (binOp .eql 39 (.slice none 0 c0) (.slice none 0 0)).run Try.prog w = .ok (.bool true) w := fun w => run_eql_slice_nil_nil w 0 c0 Try.underlying39
    go_enter Try.func112, Try.ntmps112
    go_wp2
    go_ret
    exact ⟨_, rfl, Kd.R_nil _ _ _ _ _, HB.out⟩
  | some ad =>
    have HR := Aside0.mk hr0
    clear hr0
    have hq : ∀ w, (binOp .eql 39 (.slice (some ad) l0.length c0) (.slice none 0 0)).run Try.prog w = .ok (.bool false) w := fun w => run_eql_slice_some_nil w ad l0.length c0 Try.underlying39
    go_enter Try.func112, Try.ntmps112
    go_wp2_with (first
      | ((with_reducible refine gate_dst (N := 5) rfl ?_); refine Kd.R_lit (Kd.int .i64) _ 3 ?hg (N := 5) ?hd (xs := ([] : List Int)) (inner := []) (ok := fun _ => True) (okp := fun _ => True) ?hr ?hp (fun _ hk => hk) trivial (Below.refl _ _) (Nat.le_refl _) (by simp) ?_; (case hd => rfl); (case hg => rfl); (case hr => first | (go_simp; done) | (go_simp; rfl)); (case hp => exact (Reps.none _ _)); intro v2 w2 ho hb hg_ hnew_; clear hg_ hnew_; have HO := Aside0.mk ho; have HB2 := Aside0.mk hb; clear ho hb)
      | ((with_reducible refine gate_builtin (b := .append) (xs := #[.tmp 5, .tmp 6]) rfl ?_); at_builtin; refine Kd.R_append_rows (Kd.int .i64) (w0 := w) w.heap.size rfl (.tmp 5) (.tmp 6) 39 3 (.int .i64 0) 8 rfl Try.underlying39 infoClone rfl (by decide) (by omega) v2 [] l0 _ _ _ (fun _ => True) (fun _ => False) rfl rfl ?aO ?aR (fun _ _ h => h) (fun _ h => h.elim) ?aF ?aB ?aS ?aL ?_; (case aO => exact HO.out); (case aR => exact Kd.C_below HR.out HB2.out); (case aF => exact fun _ _ => trivial); (case aB => exact HB2.out); (case aS => exact below_size HB2.out); (case aL => simp; omega); intro v3 w3 ho3 hb3 hg3 hn3; clear hg3 hn3))
    go_ret
    exact ⟨_, rfl, ho3, hb3⟩
end Go.Proofs.Ythkbgbkglgmpoaa.XA
end
