/- Words and contracts of this claim. Conditions: each theorem's own premises. -/
import Derived.Test.YtahhgjkgfbppeaaGreatZ1
import Derived.Test.YtahhgjkgfbppeaaGreatZ3
import Derived.Test.YtahhgjkgfbppeaaGreatZ4
namespace Go.Proofs.YtahhgjkgfbppeaaGreat.XA
open Go.RowKit Go.Proofs.YtahhgjkgfbppeaaGreatW.PrintWords Go.Proofs.YtahhgjkgfbppeaaGreatW.PrintLast Go.Proofs.YtahhgjkgfbppeaaGreatW.PrintMore XW
attribute [local go_sem] max2_int min2_int max_two min_two max_three min_three max_four min_four   -- for this text's walks alone
set_option linter.unusedVariables false
set_option linter.unusedSimpArgs false
set_option maxHeartbeats 8000000
set_option maxRecDepth 100000
mutual
def impl_DocOK.j0 : Nat → Bool → Int → Int → List (S113) → Option (Bool)
 | 0, _, _, _, _ => none
 | k + 1, x20, x415000, x415001, x415002 => if x20 = true then (some false) else (impl_DocOK.l0 k x415002 (x415002.length : Int) 0 x415000 x415001 x415002)
def impl_DocOK.l0 : Nat → List (S113) → Int → Int → Int → Int → List (S113) → Option (Bool)
 | 0, _, _, _, _, _, _ => none
 | k + 1, x22, x23, x24, x415000, x415001, x415002 => if x24 < x23 then (if 0 ≤ x24 then (if x24 < (x22.length : Int) then ((impl_within.f ((rd_T113 x22 x24).f0) 1 (wrap64 (x415001 - 1))).bind fun t419 => (if t419 = true then (if x24 > 0 then (if 0 ≤ (wrap64 (x24 - 1)) then (if (wrap64 (x24 - 1)) < (x415002.length : Int) then (if ((rd_T113 x415002 (wrap64 (x24 - 1))).f0) ≥ ((rd_T113 x22 x24).f0) then (impl_DocOK.j2 k x22 x23 x24 true x415000 x415001 x415002) else ((impl_within.f ((rd_T113 x22 x24).f1) 1 8).bind fun t421 => (if t421 = true then ((impl_within.f ((rd_T113 x22 x24).f2) 0 99).bind fun t422 => (if t422 = true then (if (((rd_T113 x22 x24).f3).size : Int) > 20 then (impl_DocOK.j2 k x22 x23 x24 true x415000 x415001 x415002) else (impl_DocOK.j2 k x22 x23 x24 (decide ((((rd_T113 x22 x24).f4).length : Int) > 12)) x415000 x415001 x415002)) else (impl_DocOK.j2 k x22 x23 x24 true x415000 x415001 x415002))) else (impl_DocOK.j2 k x22 x23 x24 true x415000 x415001 x415002)))) else (none)) else (none)) else ((impl_within.f ((rd_T113 x22 x24).f1) 1 8).bind fun t423 => (if t423 = true then ((impl_within.f ((rd_T113 x22 x24).f2) 0 99).bind fun t424 => (if t424 = true then (if (((rd_T113 x22 x24).f3).size : Int) > 20 then (impl_DocOK.j2 k x22 x23 x24 true x415000 x415001 x415002) else (impl_DocOK.j2 k x22 x23 x24 (decide ((((rd_T113 x22 x24).f4).length : Int) > 12)) x415000 x415001 x415002)) else (impl_DocOK.j2 k x22 x23 x24 true x415000 x415001 x415002))) else (impl_DocOK.j2 k x22 x23 x24 true x415000 x415001 x415002)))) else (impl_DocOK.j2 k x22 x23 x24 true x415000 x415001 x415002))) else (none)) else (none)) else (impl_DocOK.l1 k x415002 (x415002.length : Int) 0 x415000 x415001 x415002 ([] : List (Int × Bool)))
def impl_DocOK.j2 : Nat → List (S113) → Int → Int → Bool → Int → Int → List (S113) → Option (Bool)
 | 0, _, _, _, _, _, _, _ => none
 | k + 1, x22, x23, x24, x75, x415000, x415001, x415002 => if x75 = true then (some false) else (impl_DocOK.l0 k x22 x23 (wrap64 (x24 + 1)) x415000 x415001 x415002)
def impl_DocOK.l1 : Nat → List (S113) → Int → Int → Int → Int → List (S113) → List (Int × Bool) → Option (Bool)
 | 0, _, _, _, _, _, _, _ => none
 | k + 1, x79, x80, x81, x415000, x415001, x415002, x426000 => if x81 < x80 then (if 0 ≤ x81 then (if x81 < (x79.length : Int) then (impl_DocOK.l2 k x79 x80 x81 ((rd_T113 x79 x81).f4) (((rd_T113 x79 x81).f4).length : Int) 0 x415000 x415001 x415002 x426000) else (none)) else (none)) else ((impl_Doc_has.f k x415000 x415001 x415002 x415000).bind fun t430 => (if t430 = true then (if (x426000.length : Int) = (wrap64 ((x415002.length : Int) - 1)) then ((impl_Doc_isDeep.f k x415000 x415001 x415002).bind fun t431 => (impl_DocOK.j6 k t431 x415000 x415001 x415002)) else (impl_DocOK.j6 k true x415000 x415001 x415002)) else (impl_DocOK.j6 k true x415000 x415001 x415002)))
def impl_DocOK.l2 : Nat → List (S113) → Int → Int → List Int → Int → Int → Int → Int → List (S113) → List (Int × Bool) → Option (Bool)
 | 0, _, _, _, _, _, _, _, _, _, _ => none
 | k + 1, x79, x80, x81, x86, x87, x88, x415000, x415001, x415002, x426000 => if x88 < x87 then (if 0 ≤ x88 then (if x88 < (x86.length : Int) then (if XM.get false x426000 (rd x86 x88) = true then (impl_DocOK.j5 k (rd x86 x88) x79 x80 x81 x86 x87 x88 true x415000 x415001 x415002 x426000) else (if (rd x86 x88) = x415000 then (impl_DocOK.j5 k (rd x86 x88) x79 x80 x81 x86 x87 x88 true x415000 x415001 x415002 x426000) else ((impl_Doc_has.f k x415000 x415001 x415002 (rd x86 x88)).bind fun t429 => (impl_DocOK.j5 k (rd x86 x88) x79 x80 x81 x86 x87 x88 (!t429) x415000 x415001 x415002 x426000)))) else (none)) else (none)) else (impl_DocOK.l1 k x79 x80 (wrap64 (x81 + 1)) x415000 x415001 x415002 x426000)
def impl_DocOK.j5 : Nat → Int → List (S113) → Int → Int → List Int → Int → Int → Bool → Int → Int → List (S113) → List (Int × Bool) → Option (Bool)
 | 0, _, _, _, _, _, _, _, _, _, _, _, _ => none
 | k + 1, x9, x79, x80, x81, x86, x87, x88, x105, x415000, x415001, x415002, x426000 => if x105 = true then (some false) else (impl_DocOK.l2 k x79 x80 x81 x86 x87 (wrap64 (x88 + 1)) x415000 x415001 x415002 (XM.put x426000 x9 true))
def impl_DocOK.j6 : Nat → Bool → Int → Int → List (S113) → Option (Bool)
 | 0, _, _, _, _ => none
 | k + 1, x125, x415000, x415001, x415002 => if x125 = true then (some false) else ((impl_Doc_order.f k x415000 x415001 x415002 ([] : List Int) x415000).bind fun t432 => (some ((t432.length : Int) == (x415002.length : Int))))
end
def impl_DocOK.f (k : Nat) (a0_0 : Int) (a0_1 : Int) (l0_2 : List (S113)) : Option (Bool) := (impl_within.f (l0_2.length : Int) 1 40).bind fun t415 => (if t415 = true then ((impl_within.f a0_1 2 999999).bind fun t416 => (impl_DocOK.j0 k (!t416) a0_0 a0_1 l0_2)) else (impl_DocOK.j0 k true a0_0 a0_1 l0_2))
def impl_DocOK.T23 : Bool × List (List Nat × List Nat) := (true, [([], []), ([0], [0]), ([1], [1]), ([2], [2]), ([], []), ([4], [4]), ([5], [5]), ([3, 6], [3, 6]), ([7, 2, 0, 1, 2, 3, 4, 5, 6, 7], [7])])
def impl_DocOK.B23 : List Nat := [0, 1, 3, 7, 0, 16, 48, 127, 255]
theorem impl_DocOK.tab23 : rtab .any (opsOf Tryz.f68 23) = impl_DocOK.T23 := by kernel_rfl
theorem impl_DocOK.bits23 : waitsOk impl_DocOK.T23.2 impl_DocOK.B23 = true := by kernel_rfl
theorem impl_DocOK.calls (k : Nat) (a0_0 : Int) (a0_1 : Int) (A0_2 : Option Addr) (c0_2 : Nat) (l0_2 : List (S113)) (r : Bool) (w : World) (hr0_2 : Kd.C k113 w A0_2 l0_2.length l0_2) (hc0_2 : l0_2.length ≤ c0_2) (h : impl_DocOK.f k a0_0 a0_1 l0_2 = some r) :
  Calls Tryz.prog 68 #[.agg #[.int .i64 a0_0, .int .i64 a0_1, .slice A0_2 l0_2.length c0_2]] w fun e w' => e = .returned (.bool r) ∧ Below w.heap.size w w' := by
 have hu35 := Tryz.underlying35
 have hu113 := Tryz.underlying113
 have HR0_2 := Aside0.mk hr0_2
 have HC0_2 := Aside0.mk hc0_2
 clear hr0_2 hc0_2
 have HB := Aside0.mk (Below.refl w.heap.size w)
 have H : ((impl_within.f (l0_2.length : Int) 1 40).bind fun t415 => (if t415 = true then ((impl_within.f a0_1 2 999999).bind fun t416 => (impl_DocOK.j0 k (!t416) a0_0 a0_1 l0_2)) else (impl_DocOK.j0 k true a0_0 a0_1 l0_2))) = some r := h
 clear h
 have HC2 := Aside0.mk H
 clear H
 go_enter Tryz.func68, Tryz.ntmps68
 go_upto_region 1 with (first | ((with_reducible refine gate_dst (N := 1) rfl ?_); (try (refine gate_guard (by rfl) ?_; dsimp only)); refine Xbox 1 #[.int .i64 a0_0, .int .i64 a0_1, .slice A0_2 l0_2.length c0_2] 35 ?_; intro gb414 hg w3 hbox hb; have BK414 := Aside0.mk (hbox); have GE414 := Xge hg Xi; replace HB := Aside0.mk (below_step Xi hb); clear hb hbox hg))
 (try simp only [XW.q0, XW.q1, XW.q2])
 go_cut [20] (fun v20 wc => ∃ (kq : Nat) (x20_1 : Bool), v20 = .bool x20_1 ∧ Aside0 (impl_DocOK.j0 kq x20_1 a0_0 a0_1 l0_2 = some r) ∧ Aside0 (kq ≤ k) ∧ Aside0 (wc.heap[gb414]? = some (.cells #[.int .i64 a0_0, .int .i64 a0_1, (.slice A0_2 l0_2.length c0_2)] 35 (0, 0))) ∧ Aside0 (Below w.heap.size w wc))
 case first =>
  have H := HC2.out
  clear HC2
  obtain ⟨t415, A4, H⟩ := Xbi H
  try dsimp only at H
  by_cases c5 : t415 = true
  ·subst c5
   try rw [if_pos rfl] at H
   obtain ⟨t416, A6, H⟩ := Xbi H
   try dsimp only at H
   have H' := Aside0.mk H
   clear H
   obtain ⟨hcz7_0, hcz7_1, hcz7_2⟩ := Xc3 BK414
   obtain ⟨hfz7_0, hfz7_1, hfz7_2⟩ := Xf3 BK414
   go_wp2_with (first | ((with_reducible refine gate_callee (f := 124) rfl ?_); refine Xgo 13 Tryz.func124 #[.int .i64 (l0_2.length : Int), .int .i64 1, .int .i64 40] ?_; (with_reducible refine (impl_within.calls (l0_2.length : Int) 1 40 true _ A4.out).mono ?_); rintro e w' ⟨rfl, ⟨nd, rfl⟩⟩; refine ⟨_, rfl, ?_⟩) | (go_at_call 124; (with_reducible refine (impl_within.calls a0_1 2 999999 t416 _ A6.out).mono ?_); rintro e w' ⟨rfl, ⟨nd, rfl⟩⟩; (try exact Xdd)))
   go_meet
   case rel => exact ⟨_, (!t416), Xr, H', Xko, BK414, ⟨Xi⟩⟩
  replace c5 := Bool.eq_false_iff.mpr c5
  subst c5
  try rw [if_neg (show ¬ (false = true) by decide)] at H
  have H' := Aside0.mk H
  clear H
  obtain ⟨hcz8_0, hcz8_1, hcz8_2⟩ := Xc3 BK414
  obtain ⟨hfz8_0, hfz8_1, hfz8_2⟩ := Xf3 BK414
  go_wp2_with (first | ((with_reducible refine gate_callee (f := 124) rfl ?_); refine Xgo 13 Tryz.func124 #[.int .i64 (l0_2.length : Int), .int .i64 1, .int .i64 40] ?_; (with_reducible refine (impl_within.calls (l0_2.length : Int) 1 40 false _ A4.out).mono ?_); rintro e w' ⟨rfl, ⟨nd, rfl⟩⟩; refine ⟨_, rfl, ?_⟩))
  go_meet
  case rel => exact ⟨_, (true), Xr, H', Xko, BK414, ⟨Xi⟩⟩
 clear HC2
 obtain ⟨kq, x20_1, rfl, HA, HJ1, BK414, HB⟩ := hcut
 cases kq with | zero => cases HA.out | succ kj1 => ?_
 have H := HA.out
 clear HA
 simp only [impl_DocOK.j0] at H
 by_cases c9 : x20_1 = true
 ·subst c9
  try rw [if_pos rfl] at H
  obtain rfl := Option.some.inj H
  go_wp2
  go_ret
  exact ⟨Xe, Xi⟩
 replace c9 := Bool.eq_false_iff.mpr c9
 subst c9
 try rw [if_neg (show ¬ (false = true) by decide)] at H
 have H' := Aside0.mk H
 clear H
 obtain ⟨hcz10_0, hcz10_1, hcz10_2⟩ := Xc3 BK414
 obtain ⟨hfz10_0, hfz10_1, hfz10_2⟩ := Xf3 BK414
 go_wp2
 go_loopg [24] kj1 (fun kq v24 w' => ∃ (x24_2 : Int), v24 = .int .i64 x24_2 ∧ Aside0 (impl_DocOK.l0 kq l0_2 (l0_2.length : Int) x24_2 a0_0 a0_1 l0_2 = some r) ∧ Aside0 (kq ≤ kj1) ∧ Aside0 (w'.heap[gb414]? = some (.cells #[.int .i64 a0_0, .int .i64 a0_1, (.slice A0_2 l0_2.length c0_2)] 35 (0, 0))) ∧ Aside0 (Below w.heap.size w w'))
 case atStart => exact ⟨(0), Xr, H', Xkr, BK414, ⟨Xi⟩⟩
 clear H'
 (try clear c9); (try clear hcz10_0); (try clear hcz10_1); (try clear hcz10_2); (try clear hfz10_0); (try clear hfz10_1); (try clear hfz10_2)
 obtain ⟨x24_2, rfl, HA, HK2, BK414, HB⟩ := hrel
 cases gk with | zero => cases HA.out | succ k2 => ?_
 have H := HA.out
 clear HA
 simp only [impl_DocOK.l0] at H
 obtain ⟨c11b0, H⟩ | ⟨c11b0, H⟩ := Xit H
 ·obtain ⟨c12b0, H⟩ := Xid H
  obtain ⟨c13b0, H⟩ := Xid H
  have HC14 := Aside0.mk H
  clear H
  obtain ⟨ad417, A417_4, c417_4, e417, p417, q417, hx417_0, hx417_1, hx417_2, hx417_3, hx417_4, HC417_4, HR417_4⟩ := at_B113 HR0_2 x24_2 Xa Xa HB
  cases e417
  go_upto_region 6 with (first | ((with_reducible refine gate_dst (N := 4) rfl ?_); (try (refine gate_guard (by rfl) ?_; dsimp only)); refine Xbox 4 #[.int .i64 0, .int .i64 0, .int .i64 0, .string (⟨#[]⟩ : ByteArray), .slice none 0 0] 113 ?_; intro gb418 hg w15 hbox hb; have BK418 := Aside0.mk (hbox); have GE418 := Xge hg Xi; replace HB := Aside0.mk (below_step Xi hb); have NB414_418 := Xnb hg BK414; have NB418_414 := Xns NB414_418; replace BK414 := Xbb BK414 hb; clear hb hbox hg; have hnb16 := NB418_414.out; have hnc16 := NB414_418.out; obtain ⟨hcz17_0, hcz17_1, hcz17_2, hcz17_3, hcz17_4⟩ := Xc5 BK418; obtain ⟨hfz17_0, hfz17_1, hfz17_2, hfz17_3, hfz17_4⟩ := Xf5 BK418) | ((with_reducible refine gate_store (t := 113) (p := 4) rfl ?_); refine store_event (t := 113) (p := 4) (v := ?vo_w18) (w1 := (((((w15.setCell ⟨gb418, 0, none⟩ (.int .i64 ((rd_T113 l0_2 x24_2).f0))).setCell ⟨gb418, 1, none⟩ (.int .i64 ((rd_T113 l0_2 x24_2).f1))).setCell ⟨gb418, 2, none⟩ (.int .i64 ((rd_T113 l0_2 x24_2).f2))).setCell ⟨gb418, 3, none⟩ (.string ((rd_T113 l0_2 x24_2).f3))).setCell ⟨gb418, 4, none⟩ (.slice A417_4 ((rd_T113 l0_2 x24_2).f4).length c417_4))) ?hg ?ho ?hn ?hr ?_; (case ho => rfl); (case hg => rfl); (case hn => rfl); (case hr => first | (go_simp; done) | (go_simp; rfl)); intro w18 hw; have n0_ : Aside0 (w18.heap[gb414]? = some (.cells #[.int .i64 a0_0, .int .i64 a0_1, .slice (some ad417) l0_2.length c0_2] 35 (0, 0))) := ⟨(by rw [hw]; exact (by (with_reducible repeat (first | refine blk_drewN ?_ _ | refine blk_drew ?_ | refine blk_alloc ?_ _)); refine blk_far ?_ NB414_418.out _; (with_reducible repeat (first | refine blk_drewN ?_ _ | refine blk_drew ?_ | refine blk_alloc ?_ _)); refine blk_far ?_ NB414_418.out _; (with_reducible repeat (first | refine blk_drewN ?_ _ | refine blk_drew ?_ | refine blk_alloc ?_ _)); refine blk_far ?_ NB414_418.out _; (with_reducible repeat (first | refine blk_drewN ?_ _ | refine blk_drew ?_ | refine blk_alloc ?_ _)); refine blk_far ?_ NB414_418.out _; (with_reducible repeat (first | refine blk_drewN ?_ _ | refine blk_drew ?_ | refine blk_alloc ?_ _)); refine blk_far ?_ NB414_418.out _; (with_reducible repeat (first | refine blk_drewN ?_ _ | refine blk_drew ?_ | refine blk_alloc ?_ _)); exact BK414.out))⟩; have n1_ : Aside0 (w18.heap[gb418]? = some (.cells #[.int .i64 ((rd_T113 l0_2 x24_2).f0), .int .i64 ((rd_T113 l0_2 x24_2).f1), .int .i64 ((rd_T113 l0_2 x24_2).f2), .string ((rd_T113 l0_2 x24_2).f3), .slice A417_4 ((rd_T113 l0_2 x24_2).f4).length c417_4] 113 (0, 0))) := ⟨(by rw [hw]; exact (by (with_reducible repeat (first | refine blk_drewN ?_ _ | refine blk_drew ?_ | refine blk_alloc ?_ _)); refine blk_put (cs := #[.int .i64 ((rd_T113 l0_2 x24_2).f0), .int .i64 ((rd_T113 l0_2 x24_2).f1), .int .i64 ((rd_T113 l0_2 x24_2).f2), .string ((rd_T113 l0_2 x24_2).f3), .slice none 0 0]) ?_ 4 _ rfl; (with_reducible repeat (first | refine blk_drewN ?_ _ | refine blk_drew ?_ | refine blk_alloc ?_ _)); refine blk_put (cs := #[.int .i64 ((rd_T113 l0_2 x24_2).f0), .int .i64 ((rd_T113 l0_2 x24_2).f1), .int .i64 ((rd_T113 l0_2 x24_2).f2), .string (⟨#[]⟩ : ByteArray), .slice none 0 0]) ?_ 3 _ rfl; (with_reducible repeat (first | refine blk_drewN ?_ _ | refine blk_drew ?_ | refine blk_alloc ?_ _)); refine blk_put (cs := #[.int .i64 ((rd_T113 l0_2 x24_2).f0), .int .i64 ((rd_T113 l0_2 x24_2).f1), .int .i64 0, .string (⟨#[]⟩ : ByteArray), .slice none 0 0]) ?_ 2 _ rfl; (with_reducible repeat (first | refine blk_drewN ?_ _ | refine blk_drew ?_ | refine blk_alloc ?_ _)); refine blk_put (cs := #[.int .i64 ((rd_T113 l0_2 x24_2).f0), .int .i64 0, .int .i64 0, .string (⟨#[]⟩ : ByteArray), .slice none 0 0]) ?_ 1 _ rfl; (with_reducible repeat (first | refine blk_drewN ?_ _ | refine blk_drew ?_ | refine blk_alloc ?_ _)); refine blk_put (cs := #[.int .i64 0, .int .i64 0, .int .i64 0, .string (⟨#[]⟩ : ByteArray), .slice none 0 0]) ?_ 0 _ rfl; (with_reducible repeat (first | refine blk_drewN ?_ _ | refine blk_drew ?_ | refine blk_alloc ?_ _)); exact BK418.out))⟩; have n2_ : Aside0 (Below w.heap.size w w18) := ⟨(by rw [hw]; exact Xi)⟩; clear hw; clear BK414; clear BK418; clear HB; have BK414 := n0_; have BK418 := n1_; have HB := n2_; clear n0_ n1_ n2_))
  (try simp only [XW.q0, XW.q1, XW.q2])
  go_cut [75] (fun v75 wc => ∃ (kq : Nat) (x75_13 : Bool), v75 = .bool x75_13 ∧ Aside0 (impl_DocOK.j2 kq l0_2 (l0_2.length : Int) x24_2 x75_13 a0_0 a0_1 l0_2 = some r) ∧ Aside0 (kq ≤ k2) ∧ Aside0 (wc.heap[gb414]? = some (.cells #[.int .i64 a0_0, .int .i64 a0_1, (.slice (some ad417) l0_2.length c0_2)] 35 (0, 0))) ∧ Aside0 (wc.heap[gb418]? = some (.cells #[.int .i64 ((rd_T113 l0_2 x24_2).f0), .int .i64 ((rd_T113 l0_2 x24_2).f1), .int .i64 ((rd_T113 l0_2 x24_2).f2), .string ((rd_T113 l0_2 x24_2).f3), (.slice A417_4 ((rd_T113 l0_2 x24_2).f4).length c417_4)] 113 (0, 0))) ∧ Aside0 (Below w.heap.size w wc))
  case first =>
   have H := HC14.out
   clear HC14
   obtain ⟨t419, A19, H⟩ := Xbi H
   try dsimp only at H
   by_cases c20 : t419 = true
   ·subst c20
    try rw [if_pos rfl] at H
    obtain ⟨c21, H⟩ | ⟨c21, H⟩ := Xiu H
    ·have c21b0 : decide (0 < x24_2) = true := decide_eq_true c21
     clear c21
     (first | rw [c21b0] | (simp only [i64_w, i32_w]; rw [c21b0]) | skip)
     obtain ⟨ji22, hji22⟩ : ∃ j_ : Int, (wrap64 (x24_2 - 1)) = j_ := ⟨_, rfl⟩
     replace H : (if 0 ≤ (ji22) then (if (ji22) < (l0_2.length : Int) then (if ((rd_T113 l0_2 (ji22)).f0) ≥ ((rd_T113 l0_2 x24_2).f0) then (impl_DocOK.j2 k2 l0_2 (l0_2.length : Int) x24_2 true a0_0 a0_1 l0_2) else ((impl_within.f ((rd_T113 l0_2 x24_2).f1) 1 8).bind fun t421 => (if t421 = true then ((impl_within.f ((rd_T113 l0_2 x24_2).f2) 0 99).bind fun t422 => (if t422 = true then (if (((rd_T113 l0_2 x24_2).f3).size : Int) > 20 then (impl_DocOK.j2 k2 l0_2 (l0_2.length : Int) x24_2 true a0_0 a0_1 l0_2) else (impl_DocOK.j2 k2 l0_2 (l0_2.length : Int) x24_2 (decide ((((rd_T113 l0_2 x24_2).f4).length : Int) > 12)) a0_0 a0_1 l0_2)) else (impl_DocOK.j2 k2 l0_2 (l0_2.length : Int) x24_2 true a0_0 a0_1 l0_2))) else (impl_DocOK.j2 k2 l0_2 (l0_2.length : Int) x24_2 true a0_0 a0_1 l0_2)))) else (none)) else (none)) = some r := by first | (rw [hji22] at H; exact H) | (simp only [hji22] at H ⊢; exact H)
     (try rw [hji22] at A19)
     have hji22w : (IntKind.i64.wrap (x24_2 - 1)) = ji22 := (i64_w _).trans hji22
     obtain ⟨c23b0, H⟩ := Xid H
     obtain ⟨c24b0, H⟩ := Xid H
     obtain ⟨c25, H⟩ | ⟨c25, H⟩ := Xiu H
     ·have c25b0 : decide (((rd_T113 l0_2 x24_2).f0) ≤ ((rd_T113 l0_2 (ji22)).f0)) = true := decide_eq_true c25
      clear c25
      have H' := Aside0.mk H
      clear H
      have hnb26 := NB418_414.out
      have hnc26 := NB414_418.out
      obtain ⟨hcz27_0, hcz27_1, hcz27_2, hcz27_3, hcz27_4⟩ := Xc5 BK418
      obtain ⟨hfz27_0, hfz27_1, hfz27_2, hfz27_3, hfz27_4⟩ := Xf5 BK418
      obtain ⟨hcz28_0, hcz28_1, hcz28_2⟩ := Xc3 BK414
      obtain ⟨hfz28_0, hfz28_1, hfz28_2⟩ := Xf3 BK414
      obtain ⟨ad420, A420_4, c420_4, e420, p420, q420, hx420_0, hx420_1, hx420_2, hx420_3, hx420_4, HC420_4, HR420_4⟩ := at_B113 HR0_2 (ji22) Xa Xa HB
      obtain rfl : ad417 = ad420 := (by injection e420)
      (try go_wp2)
      repeat (go_quiet (first | (go_at_call 124; (with_reducible refine (impl_within.calls ((rd_T113 l0_2 x24_2).f0) 1 (wrap64 (a0_1 - 1)) true _ A19.out).mono ?_); rintro e w' ⟨rfl, ⟨nd, rfl⟩⟩; (try exact Xdd))); try go_wp2)
      go_meet
      case rel => exact ⟨_, (true), Xr, H', ⟨by have := HJ1.out; have := HK2.out; first | omega | exact Nat.le_refl _⟩, BK414, BK418, ⟨Xi⟩⟩
     have c25b0 : decide (((rd_T113 l0_2 x24_2).f0) ≤ ((rd_T113 l0_2 (ji22)).f0)) = false := decide_eq_false c25
     clear c25
     obtain ⟨t421, A29, H⟩ := Xbi H
     try dsimp only at H
     by_cases c30 : t421 = true
     ·subst c30
      try rw [if_pos rfl] at H
      obtain ⟨t422, A31, H⟩ := Xbi H
      try dsimp only at H
      by_cases c32 : t422 = true
      ·subst c32
       try rw [if_pos rfl] at H
       obtain ⟨c33, H⟩ | ⟨c33, H⟩ := Xiu H
       ·have c33b0 : decide (20 < (((rd_T113 l0_2 x24_2).f3).size : Int)) = true := decide_eq_true c33
        have c33b1 : decide (20 < ((rd_T113 l0_2 x24_2).f3).size) = true := decide_eq_true (by omega)
        clear c33
        have H' := Aside0.mk H
        clear H
        have hnb34 := NB418_414.out
        have hnc34 := NB414_418.out
        obtain ⟨hcz35_0, hcz35_1, hcz35_2, hcz35_3, hcz35_4⟩ := Xc5 BK418
        obtain ⟨hfz35_0, hfz35_1, hfz35_2, hfz35_3, hfz35_4⟩ := Xf5 BK418
        obtain ⟨hcz36_0, hcz36_1, hcz36_2⟩ := Xc3 BK414
        obtain ⟨hfz36_0, hfz36_1, hfz36_2⟩ := Xf3 BK414
        obtain ⟨ad420, A420_4, c420_4, e420, p420, q420, hx420_0, hx420_1, hx420_2, hx420_3, hx420_4, HC420_4, HR420_4⟩ := at_B113 HR0_2 (ji22) Xa Xa HB
        obtain rfl : ad417 = ad420 := (by injection e420)
        (try go_wp2)
        repeat (go_quiet (first | (go_at_call 124; (with_reducible refine (impl_within.calls ((rd_T113 l0_2 x24_2).f0) 1 (wrap64 (a0_1 - 1)) true _ A19.out).mono ?_); rintro e w' ⟨rfl, ⟨nd, rfl⟩⟩; (try exact Xdd)) | (go_at_call 124; (with_reducible refine (impl_within.calls ((rd_T113 l0_2 x24_2).f1) 1 8 true _ A29.out).mono ?_); rintro e w' ⟨rfl, ⟨nd, rfl⟩⟩; (try exact Xdd)) | (go_at_call 124; (with_reducible refine (impl_within.calls ((rd_T113 l0_2 x24_2).f2) 0 99 true _ A31.out).mono ?_); rintro e w' ⟨rfl, ⟨nd, rfl⟩⟩; (try exact Xdd))); try go_wp2)
        go_meet
        case rel => exact ⟨_, (true), Xr, H', ⟨by have := HJ1.out; have := HK2.out; first | omega | exact Nat.le_refl _⟩, BK414, BK418, ⟨Xi⟩⟩
       have c33b0 : decide (20 < (((rd_T113 l0_2 x24_2).f3).size : Int)) = false := decide_eq_false c33
       have c33b1 : decide (20 < ((rd_T113 l0_2 x24_2).f3).size) = false := decide_eq_false (by omega)
       clear c33
       have H' := Aside0.mk H
       clear H
       have hnb37 := NB418_414.out
       have hnc37 := NB414_418.out
       obtain ⟨hcz38_0, hcz38_1, hcz38_2, hcz38_3, hcz38_4⟩ := Xc5 BK418
       obtain ⟨hfz38_0, hfz38_1, hfz38_2, hfz38_3, hfz38_4⟩ := Xf5 BK418
       obtain ⟨hcz39_0, hcz39_1, hcz39_2⟩ := Xc3 BK414
       obtain ⟨hfz39_0, hfz39_1, hfz39_2⟩ := Xf3 BK414
       obtain ⟨ad420, A420_4, c420_4, e420, p420, q420, hx420_0, hx420_1, hx420_2, hx420_3, hx420_4, HC420_4, HR420_4⟩ := at_B113 HR0_2 (ji22) Xa Xa HB
       obtain rfl : ad417 = ad420 := (by injection e420)
       (try go_wp2)
       repeat (go_quiet (first | (go_at_call 124; (with_reducible refine (impl_within.calls ((rd_T113 l0_2 x24_2).f0) 1 (wrap64 (a0_1 - 1)) true _ A19.out).mono ?_); rintro e w' ⟨rfl, ⟨nd, rfl⟩⟩; (try exact Xdd)) | (go_at_call 124; (with_reducible refine (impl_within.calls ((rd_T113 l0_2 x24_2).f1) 1 8 true _ A29.out).mono ?_); rintro e w' ⟨rfl, ⟨nd, rfl⟩⟩; (try exact Xdd)) | (go_at_call 124; (with_reducible refine (impl_within.calls ((rd_T113 l0_2 x24_2).f2) 0 99 true _ A31.out).mono ?_); rintro e w' ⟨rfl, ⟨nd, rfl⟩⟩; (try exact Xdd))); try go_wp2)
       go_meet
       case rel => exact ⟨_, (decide ((((rd_T113 l0_2 x24_2).f4).length : Int) > 12)), Xr, H', ⟨by have := HJ1.out; have := HK2.out; first | omega | exact Nat.le_refl _⟩, BK414, BK418, ⟨Xi⟩⟩
      replace c32 := Bool.eq_false_iff.mpr c32
      subst c32
      try rw [if_neg (show ¬ (false = true) by decide)] at H
      have H' := Aside0.mk H
      clear H
      have hnb40 := NB418_414.out
      have hnc40 := NB414_418.out
      obtain ⟨hcz41_0, hcz41_1, hcz41_2, hcz41_3, hcz41_4⟩ := Xc5 BK418
      obtain ⟨hfz41_0, hfz41_1, hfz41_2, hfz41_3, hfz41_4⟩ := Xf5 BK418
      obtain ⟨hcz42_0, hcz42_1, hcz42_2⟩ := Xc3 BK414
      obtain ⟨hfz42_0, hfz42_1, hfz42_2⟩ := Xf3 BK414
      obtain ⟨ad420, A420_4, c420_4, e420, p420, q420, hx420_0, hx420_1, hx420_2, hx420_3, hx420_4, HC420_4, HR420_4⟩ := at_B113 HR0_2 (ji22) Xa Xa HB
      obtain rfl : ad417 = ad420 := (by injection e420)
      (try go_wp2)
      repeat (go_quiet (first | (go_at_call 124; (with_reducible refine (impl_within.calls ((rd_T113 l0_2 x24_2).f0) 1 (wrap64 (a0_1 - 1)) true _ A19.out).mono ?_); rintro e w' ⟨rfl, ⟨nd, rfl⟩⟩; (try exact Xdd)) | (go_at_call 124; (with_reducible refine (impl_within.calls ((rd_T113 l0_2 x24_2).f1) 1 8 true _ A29.out).mono ?_); rintro e w' ⟨rfl, ⟨nd, rfl⟩⟩; (try exact Xdd)) | (go_at_call 124; (with_reducible refine (impl_within.calls ((rd_T113 l0_2 x24_2).f2) 0 99 false _ A31.out).mono ?_); rintro e w' ⟨rfl, ⟨nd, rfl⟩⟩; (try exact Xdd))); try go_wp2)
      go_meet
      case rel => exact ⟨_, (true), Xr, H', ⟨by have := HJ1.out; have := HK2.out; first | omega | exact Nat.le_refl _⟩, BK414, BK418, ⟨Xi⟩⟩
     replace c30 := Bool.eq_false_iff.mpr c30
     subst c30
     try rw [if_neg (show ¬ (false = true) by decide)] at H
     have H' := Aside0.mk H
     clear H
     have hnb43 := NB418_414.out
     have hnc43 := NB414_418.out
     obtain ⟨hcz44_0, hcz44_1, hcz44_2, hcz44_3, hcz44_4⟩ := Xc5 BK418
     obtain ⟨hfz44_0, hfz44_1, hfz44_2, hfz44_3, hfz44_4⟩ := Xf5 BK418
     obtain ⟨hcz45_0, hcz45_1, hcz45_2⟩ := Xc3 BK414
     obtain ⟨hfz45_0, hfz45_1, hfz45_2⟩ := Xf3 BK414
     obtain ⟨ad420, A420_4, c420_4, e420, p420, q420, hx420_0, hx420_1, hx420_2, hx420_3, hx420_4, HC420_4, HR420_4⟩ := at_B113 HR0_2 (ji22) Xa Xa HB
     obtain rfl : ad417 = ad420 := (by injection e420)
     (try go_wp2)
     repeat (go_quiet (first | (go_at_call 124; (with_reducible refine (impl_within.calls ((rd_T113 l0_2 x24_2).f0) 1 (wrap64 (a0_1 - 1)) true _ A19.out).mono ?_); rintro e w' ⟨rfl, ⟨nd, rfl⟩⟩; (try exact Xdd)) | (go_at_call 124; (with_reducible refine (impl_within.calls ((rd_T113 l0_2 x24_2).f1) 1 8 false _ A29.out).mono ?_); rintro e w' ⟨rfl, ⟨nd, rfl⟩⟩; (try exact Xdd))); try go_wp2)
     go_meet
     case rel => exact ⟨_, (true), Xr, H', ⟨by have := HJ1.out; have := HK2.out; first | omega | exact Nat.le_refl _⟩, BK414, BK418, ⟨Xi⟩⟩
    have c21b0 : decide (0 < x24_2) = false := decide_eq_false c21
    clear c21
    (first | rw [c21b0] | (simp only [i64_w, i32_w]; rw [c21b0]) | skip)
    obtain ⟨t423, A46, H⟩ := Xbi H
    try dsimp only at H
    by_cases c47 : t423 = true
    ·subst c47
     try rw [if_pos rfl] at H
     obtain ⟨t424, A48, H⟩ := Xbi H
     try dsimp only at H
     by_cases c49 : t424 = true
     ·subst c49
      try rw [if_pos rfl] at H
      obtain ⟨c50, H⟩ | ⟨c50, H⟩ := Xiu H
      ·have c50b0 : decide (20 < (((rd_T113 l0_2 x24_2).f3).size : Int)) = true := decide_eq_true c50
       have c50b1 : decide (20 < ((rd_T113 l0_2 x24_2).f3).size) = true := decide_eq_true (by omega)
       clear c50
       have H' := Aside0.mk H
       clear H
       have hnb51 := NB418_414.out
       have hnc51 := NB414_418.out
       obtain ⟨hcz52_0, hcz52_1, hcz52_2, hcz52_3, hcz52_4⟩ := Xc5 BK418
       obtain ⟨hfz52_0, hfz52_1, hfz52_2, hfz52_3, hfz52_4⟩ := Xf5 BK418
       obtain ⟨hcz53_0, hcz53_1, hcz53_2⟩ := Xc3 BK414
       obtain ⟨hfz53_0, hfz53_1, hfz53_2⟩ := Xf3 BK414
       (try go_wp2)
       repeat (go_quiet (first | (go_at_call 124; (with_reducible refine (impl_within.calls ((rd_T113 l0_2 x24_2).f0) 1 (wrap64 (a0_1 - 1)) true _ A19.out).mono ?_); rintro e w' ⟨rfl, ⟨nd, rfl⟩⟩; (try exact Xdd)) | (go_at_call 124; (with_reducible refine (impl_within.calls ((rd_T113 l0_2 x24_2).f1) 1 8 true _ A46.out).mono ?_); rintro e w' ⟨rfl, ⟨nd, rfl⟩⟩; (try exact Xdd)) | (go_at_call 124; (with_reducible refine (impl_within.calls ((rd_T113 l0_2 x24_2).f2) 0 99 true _ A48.out).mono ?_); rintro e w' ⟨rfl, ⟨nd, rfl⟩⟩; (try exact Xdd))); try go_wp2)
       go_meet
       case rel => exact ⟨_, (true), Xr, H', ⟨by have := HJ1.out; have := HK2.out; first | omega | exact Nat.le_refl _⟩, BK414, BK418, ⟨Xi⟩⟩
      have c50b0 : decide (20 < (((rd_T113 l0_2 x24_2).f3).size : Int)) = false := decide_eq_false c50
      have c50b1 : decide (20 < ((rd_T113 l0_2 x24_2).f3).size) = false := decide_eq_false (by omega)
      clear c50
      have H' := Aside0.mk H
      clear H
      have hnb54 := NB418_414.out
      have hnc54 := NB414_418.out
      obtain ⟨hcz55_0, hcz55_1, hcz55_2, hcz55_3, hcz55_4⟩ := Xc5 BK418
      obtain ⟨hfz55_0, hfz55_1, hfz55_2, hfz55_3, hfz55_4⟩ := Xf5 BK418
      obtain ⟨hcz56_0, hcz56_1, hcz56_2⟩ := Xc3 BK414
      obtain ⟨hfz56_0, hfz56_1, hfz56_2⟩ := Xf3 BK414
      (try go_wp2)
      repeat (go_quiet (first | (go_at_call 124; (with_reducible refine (impl_within.calls ((rd_T113 l0_2 x24_2).f0) 1 (wrap64 (a0_1 - 1)) true _ A19.out).mono ?_); rintro e w' ⟨rfl, ⟨nd, rfl⟩⟩; (try exact Xdd)) | (go_at_call 124; (with_reducible refine (impl_within.calls ((rd_T113 l0_2 x24_2).f1) 1 8 true _ A46.out).mono ?_); rintro e w' ⟨rfl, ⟨nd, rfl⟩⟩; (try exact Xdd)) | (go_at_call 124; (with_reducible refine (impl_within.calls ((rd_T113 l0_2 x24_2).f2) 0 99 true _ A48.out).mono ?_); rintro e w' ⟨rfl, ⟨nd, rfl⟩⟩; (try exact Xdd))); try go_wp2)
      go_meet
      case rel => exact ⟨_, (decide ((((rd_T113 l0_2 x24_2).f4).length : Int) > 12)), Xr, H', ⟨by have := HJ1.out; have := HK2.out; first | omega | exact Nat.le_refl _⟩, BK414, BK418, ⟨Xi⟩⟩
     replace c49 := Bool.eq_false_iff.mpr c49
     subst c49
     try rw [if_neg (show ¬ (false = true) by decide)] at H
     have H' := Aside0.mk H
     clear H
     have hnb57 := NB418_414.out
     have hnc57 := NB414_418.out
     obtain ⟨hcz58_0, hcz58_1, hcz58_2, hcz58_3, hcz58_4⟩ := Xc5 BK418
     obtain ⟨hfz58_0, hfz58_1, hfz58_2, hfz58_3, hfz58_4⟩ := Xf5 BK418
     obtain ⟨hcz59_0, hcz59_1, hcz59_2⟩ := Xc3 BK414
     obtain ⟨hfz59_0, hfz59_1, hfz59_2⟩ := Xf3 BK414
     (try go_wp2)
     repeat (go_quiet (first | (go_at_call 124; (with_reducible refine (impl_within.calls ((rd_T113 l0_2 x24_2).f0) 1 (wrap64 (a0_1 - 1)) true _ A19.out).mono ?_); rintro e w' ⟨rfl, ⟨nd, rfl⟩⟩; (try exact Xdd)) | (go_at_call 124; (with_reducible refine (impl_within.calls ((rd_T113 l0_2 x24_2).f1) 1 8 true _ A46.out).mono ?_); rintro e w' ⟨rfl, ⟨nd, rfl⟩⟩; (try exact Xdd)) | (go_at_call 124; (with_reducible refine (impl_within.calls ((rd_T113 l0_2 x24_2).f2) 0 99 false _ A48.out).mono ?_); rintro e w' ⟨rfl, ⟨nd, rfl⟩⟩; (try exact Xdd))); try go_wp2)
     go_meet
     case rel => exact ⟨_, (true), Xr, H', ⟨by have := HJ1.out; have := HK2.out; first | omega | exact Nat.le_refl _⟩, BK414, BK418, ⟨Xi⟩⟩
    replace c47 := Bool.eq_false_iff.mpr c47
    subst c47
    try rw [if_neg (show ¬ (false = true) by decide)] at H
    have H' := Aside0.mk H
    clear H
    have hnb60 := NB418_414.out
    have hnc60 := NB414_418.out
    obtain ⟨hcz61_0, hcz61_1, hcz61_2, hcz61_3, hcz61_4⟩ := Xc5 BK418
    obtain ⟨hfz61_0, hfz61_1, hfz61_2, hfz61_3, hfz61_4⟩ := Xf5 BK418
    obtain ⟨hcz62_0, hcz62_1, hcz62_2⟩ := Xc3 BK414
    obtain ⟨hfz62_0, hfz62_1, hfz62_2⟩ := Xf3 BK414
    (try go_wp2)
    repeat (go_quiet (first | (go_at_call 124; (with_reducible refine (impl_within.calls ((rd_T113 l0_2 x24_2).f0) 1 (wrap64 (a0_1 - 1)) true _ A19.out).mono ?_); rintro e w' ⟨rfl, ⟨nd, rfl⟩⟩; (try exact Xdd)) | (go_at_call 124; (with_reducible refine (impl_within.calls ((rd_T113 l0_2 x24_2).f1) 1 8 false _ A46.out).mono ?_); rintro e w' ⟨rfl, ⟨nd, rfl⟩⟩; (try exact Xdd))); try go_wp2)
    go_meet
    case rel => exact ⟨_, (true), Xr, H', ⟨by have := HJ1.out; have := HK2.out; first | omega | exact Nat.le_refl _⟩, BK414, BK418, ⟨Xi⟩⟩
   replace c20 := Bool.eq_false_iff.mpr c20
   subst c20
   try rw [if_neg (show ¬ (false = true) by decide)] at H
   have H' := Aside0.mk H
   clear H
   have hnb63 := NB418_414.out
   have hnc63 := NB414_418.out
   obtain ⟨hcz64_0, hcz64_1, hcz64_2, hcz64_3, hcz64_4⟩ := Xc5 BK418
   obtain ⟨hfz64_0, hfz64_1, hfz64_2, hfz64_3, hfz64_4⟩ := Xf5 BK418
   obtain ⟨hcz65_0, hcz65_1, hcz65_2⟩ := Xc3 BK414
   obtain ⟨hfz65_0, hfz65_1, hfz65_2⟩ := Xf3 BK414
   (try go_wp2)
   repeat (go_quiet (first | (go_at_call 124; (with_reducible refine (impl_within.calls ((rd_T113 l0_2 x24_2).f0) 1 (wrap64 (a0_1 - 1)) false _ A19.out).mono ?_); rintro e w' ⟨rfl, ⟨nd, rfl⟩⟩; (try exact Xdd))); try go_wp2)
   go_meet
   case rel => exact ⟨_, (true), Xr, H', ⟨by have := HJ1.out; have := HK2.out; first | omega | exact Nat.le_refl _⟩, BK414, BK418, ⟨Xi⟩⟩
  clear HC14
  (try clear c9); (try clear c11); (try clear c11b0); (try clear c12); (try clear c12b0); (try clear c13); (try clear c13b0); (try clear hcz10_0); (try clear hcz10_1); (try clear hcz10_2); (try clear hcz17_0); (try clear hcz17_1); (try clear hcz17_2); (try clear hcz17_3); (try clear hcz17_4); (try clear hfz10_0); (try clear hfz10_1); (try clear hfz10_2); (try clear hfz17_0); (try clear hfz17_1); (try clear hfz17_2); (try clear hfz17_3); (try clear hfz17_4); (try clear hx417_0); (try clear hx417_1); (try clear hx417_2); (try clear hx417_3); (try clear hx417_4); (try clear p417); (try clear q417)
  obtain ⟨kq, x75_13, rfl, HA, HJ13, BK414, BK418, HB⟩ := hcut
  cases kq with | zero => cases HA.out | succ kj13 => ?_
  have H := HA.out
  clear HA
  simp only [impl_DocOK.j2] at H
  by_cases c66 : x75_13 = true
  ·subst c66
   try rw [if_pos rfl] at H
   obtain rfl := Option.some.inj H
   go_wp2
   go_ret
   exact ⟨Xe, Xi⟩
  replace c66 := Bool.eq_false_iff.mpr c66
  subst c66
  try rw [if_neg (show ¬ (false = true) by decide)] at H
  have H' := Aside0.mk H
  clear H
  go_wp2
  go_roundg kj13
  case measure => have := HJ1.out; have := HK2.out; have := HJ13.out; omega
  case rel => exact ⟨(wrap64 (x24_2 + 1)), Xr, H', ⟨by have := HJ1.out; have := HK2.out; have := HJ13.out; omega⟩, BK414, ⟨Xi⟩⟩
 have H' := Aside0.mk H
 clear H
 go_wp2_with (first | ((with_reducible refine gate_dst (N := 77) rfl ?_); (try (refine gate_guard (by rfl) ?_; dsimp only)); refine XM.make_event Value.bool ?hg (N := 77) ?hd 134 ?hr ?_; (case hd => rfl); (case hg => rfl); (case hr => rfl); intro gb425 hg w67 hbox hb; have BK425 := Aside0.mk (hbox); have GE425 := Xge hg Xi; replace HB := Aside0.mk (below_step Xi hb); have NB414_425 := Xnb hg BK414; have NB425_414 := Xns NB414_425; replace BK414 := Xbb BK414 hb; clear hb hbox hg; have hnb68 := NB414_425.out; have hnc68 := NB425_414.out; obtain ⟨hcz69_0, hcz69_1, hcz69_2⟩ := Xc3 BK414; obtain ⟨hfz69_0, hfz69_1, hfz69_2⟩ := Xf3 BK414))
 go_loopg [81] k2 (fun kq v81 w' => ∃ (x81_3 : Int) (x426000_3 : List (Int × Bool)), v81 = .int .i64 x81_3 ∧ Aside0 (impl_DocOK.l1 kq l0_2 (l0_2.length : Int) x81_3 a0_0 a0_1 l0_2 x426000_3 = some r) ∧ Aside0 (kq ≤ k2) ∧ Aside0 (w'.heap[gb414]? = some (.cells #[.int .i64 a0_0, .int .i64 a0_1, (.slice A0_2 l0_2.length c0_2)] 35 (0, 0))) ∧ Aside0 (w'.heap[gb425]? = some (XM.mapObj Value.bool x426000_3)) ∧ Aside0 (Below w.heap.size w w'))
 case atStart => exact ⟨(0), (([] : List (Int × Bool))), Xr, H', Xkr, BK414, BK425, ⟨Xi⟩⟩
 clear H'
 (try clear c9); (try clear c11); (try clear c11b0); (try clear hcz10_0); (try clear hcz10_1); (try clear hcz10_2); (try clear hcz69_0); (try clear hcz69_1); (try clear hcz69_2); (try clear hfz10_0); (try clear hfz10_1); (try clear hfz10_2); (try clear hfz69_0); (try clear hfz69_1); (try clear hfz69_2)
 obtain ⟨x81_3, x426000_3, rfl, HA, HK3, BK414, BK425, HB⟩ := hrel
 cases gk with | zero => cases HA.out | succ k3 => ?_
 have H := HA.out
 clear HA
 simp only [impl_DocOK.l1] at H
 obtain ⟨c70b0, H⟩ | ⟨c70b0, H⟩ := Xit H
 ·obtain ⟨c71b0, H⟩ := Xid H
  obtain ⟨c72b0, H⟩ := Xid H
  have H' := Aside0.mk H
  clear H
  obtain ⟨ad426, A426_4, c426_4, e426, p426, q426, hx426_0, hx426_1, hx426_2, hx426_3, hx426_4, HC426_4, HR426_4⟩ := at_B113 HR0_2 x81_3 Xa Xa HB
  cases e426
  go_wp2_with (first | ((with_reducible refine gate_dst (N := 7) rfl ?_); (try (refine gate_guard (by rfl) ?_; dsimp only)); refine Xbox 7 #[.int .i64 0, .int .i64 0, .int .i64 0, .string (⟨#[]⟩ : ByteArray), .slice none 0 0] 113 ?_; intro gb427 hg w73 hbox hb; have BK427 := Aside0.mk (hbox); have GE427 := Xge hg Xi; replace HB := Aside0.mk (below_step Xi hb); have NB414_427 := Xnb hg BK414; have NB427_414 := Xns NB414_427; replace BK414 := Xbb BK414 hb; have NB425_427 := Xnb hg BK425; have NB427_425 := Xns NB425_427; replace BK425 := Xbb BK425 hb; clear hb hbox hg; have hnb74 := NB427_414.out; have hnc74 := NB414_427.out; have hnb75 := NB427_425.out; have hnc75 := NB425_427.out; obtain ⟨hcz76_0, hcz76_1, hcz76_2, hcz76_3, hcz76_4⟩ := Xc5 BK427; obtain ⟨hfz76_0, hfz76_1, hfz76_2, hfz76_3, hfz76_4⟩ := Xf5 BK427) | ((with_reducible refine gate_store (t := 113) (p := 7) rfl ?_); refine store_event (t := 113) (p := 7) (v := ?vo_w77) (w1 := (((((w73.setCell ⟨gb427, 0, none⟩ (.int .i64 ((rd_T113 l0_2 x81_3).f0))).setCell ⟨gb427, 1, none⟩ (.int .i64 ((rd_T113 l0_2 x81_3).f1))).setCell ⟨gb427, 2, none⟩ (.int .i64 ((rd_T113 l0_2 x81_3).f2))).setCell ⟨gb427, 3, none⟩ (.string ((rd_T113 l0_2 x81_3).f3))).setCell ⟨gb427, 4, none⟩ (.slice A426_4 ((rd_T113 l0_2 x81_3).f4).length c426_4))) ?hg ?ho ?hn ?hr ?_; (case ho => rfl); (case hg => rfl); (case hn => rfl); (case hr => first | (go_simp; done) | (go_simp; rfl)); intro w77 hw; have n0_ : Aside0 (w77.heap[gb414]? = some (.cells #[.int .i64 a0_0, .int .i64 a0_1, .slice (some ad426) l0_2.length c0_2] 35 (0, 0))) := ⟨(by rw [hw]; exact (by (with_reducible repeat (first | refine blk_drewN ?_ _ | refine blk_drew ?_ | refine blk_alloc ?_ _)); refine blk_far ?_ NB414_427.out _; (with_reducible repeat (first | refine blk_drewN ?_ _ | refine blk_drew ?_ | refine blk_alloc ?_ _)); refine blk_far ?_ NB414_427.out _; (with_reducible repeat (first | refine blk_drewN ?_ _ | refine blk_drew ?_ | refine blk_alloc ?_ _)); refine blk_far ?_ NB414_427.out _; (with_reducible repeat (first | refine blk_drewN ?_ _ | refine blk_drew ?_ | refine blk_alloc ?_ _)); refine blk_far ?_ NB414_427.out _; (with_reducible repeat (first | refine blk_drewN ?_ _ | refine blk_drew ?_ | refine blk_alloc ?_ _)); refine blk_far ?_ NB414_427.out _; (with_reducible repeat (first | refine blk_drewN ?_ _ | refine blk_drew ?_ | refine blk_alloc ?_ _)); exact BK414.out))⟩; have n1_ : Aside0 (w77.heap[gb425]? = some (XM.mapObj Value.bool x426000_3)) := ⟨(by rw [hw]; exact (by (with_reducible repeat (first | refine blk_drewN ?_ _ | refine blk_drew ?_ | refine blk_alloc ?_ _)); refine XM.blk_far ?_ NB425_427.out _; (with_reducible repeat (first | refine blk_drewN ?_ _ | refine blk_drew ?_ | refine blk_alloc ?_ _)); refine XM.blk_far ?_ NB425_427.out _; (with_reducible repeat (first | refine blk_drewN ?_ _ | refine blk_drew ?_ | refine blk_alloc ?_ _)); refine XM.blk_far ?_ NB425_427.out _; (with_reducible repeat (first | refine blk_drewN ?_ _ | refine blk_drew ?_ | refine blk_alloc ?_ _)); refine XM.blk_far ?_ NB425_427.out _; (with_reducible repeat (first | refine blk_drewN ?_ _ | refine blk_drew ?_ | refine blk_alloc ?_ _)); refine XM.blk_far ?_ NB425_427.out _; (with_reducible repeat (first | refine blk_drewN ?_ _ | refine blk_drew ?_ | refine blk_alloc ?_ _)); exact BK425.out))⟩; have n2_ : Aside0 (w77.heap[gb427]? = some (.cells #[.int .i64 ((rd_T113 l0_2 x81_3).f0), .int .i64 ((rd_T113 l0_2 x81_3).f1), .int .i64 ((rd_T113 l0_2 x81_3).f2), .string ((rd_T113 l0_2 x81_3).f3), .slice A426_4 ((rd_T113 l0_2 x81_3).f4).length c426_4] 113 (0, 0))) := ⟨(by rw [hw]; exact (by (with_reducible repeat (first | refine blk_drewN ?_ _ | refine blk_drew ?_ | refine blk_alloc ?_ _)); refine blk_put (cs := #[.int .i64 ((rd_T113 l0_2 x81_3).f0), .int .i64 ((rd_T113 l0_2 x81_3).f1), .int .i64 ((rd_T113 l0_2 x81_3).f2), .string ((rd_T113 l0_2 x81_3).f3), .slice none 0 0]) ?_ 4 _ rfl; (with_reducible repeat (first | refine blk_drewN ?_ _ | refine blk_drew ?_ | refine blk_alloc ?_ _)); refine blk_put (cs := #[.int .i64 ((rd_T113 l0_2 x81_3).f0), .int .i64 ((rd_T113 l0_2 x81_3).f1), .int .i64 ((rd_T113 l0_2 x81_3).f2), .string (⟨#[]⟩ : ByteArray), .slice none 0 0]) ?_ 3 _ rfl; (with_reducible repeat (first | refine blk_drewN ?_ _ | refine blk_drew ?_ | refine blk_alloc ?_ _)); refine blk_put (cs := #[.int .i64 ((rd_T113 l0_2 x81_3).f0), .int .i64 ((rd_T113 l0_2 x81_3).f1), .int .i64 0, .string (⟨#[]⟩ : ByteArray), .slice none 0 0]) ?_ 2 _ rfl; (with_reducible repeat (first | refine blk_drewN ?_ _ | refine blk_drew ?_ | refine blk_alloc ?_ _)); refine blk_put (cs := #[.int .i64 ((rd_T113 l0_2 x81_3).f0), .int .i64 0, .int .i64 0, .string (⟨#[]⟩ : ByteArray), .slice none 0 0]) ?_ 1 _ rfl; (with_reducible repeat (first | refine blk_drewN ?_ _ | refine blk_drew ?_ | refine blk_alloc ?_ _)); refine blk_put (cs := #[.int .i64 0, .int .i64 0, .int .i64 0, .string (⟨#[]⟩ : ByteArray), .slice none 0 0]) ?_ 0 _ rfl; (with_reducible repeat (first | refine blk_drewN ?_ _ | refine blk_drew ?_ | refine blk_alloc ?_ _)); exact BK427.out))⟩; have n3_ : Aside0 (Below w.heap.size w w77) := ⟨(by rw [hw]; exact Xi)⟩; clear hw; clear BK414; clear BK425; clear BK427; clear HB; have BK414 := n0_; have BK425 := n1_; have BK427 := n2_; have HB := n3_; clear n0_ n1_ n2_ n3_; obtain ⟨hcz78_0, hcz78_1, hcz78_2, hcz78_3, hcz78_4⟩ := Xc5 BK427; obtain ⟨hfz78_0, hfz78_1, hfz78_2, hfz78_3, hfz78_4⟩ := Xf5 BK427))
  go_loopg [88] k3 (fun kq v88 w' => ∃ (x88_4 : Int) (x426000_4 : List (Int × Bool)), v88 = .int .i64 x88_4 ∧ Aside0 (impl_DocOK.l2 kq l0_2 (l0_2.length : Int) x81_3 ((rd_T113 l0_2 x81_3).f4) (((rd_T113 l0_2 x81_3).f4).length : Int) x88_4 a0_0 a0_1 l0_2 x426000_4 = some r) ∧ Aside0 (kq ≤ k3) ∧ Aside0 (w'.heap[gb414]? = some (.cells #[.int .i64 a0_0, .int .i64 a0_1, (.slice (some ad426) l0_2.length c0_2)] 35 (0, 0))) ∧ Aside0 (w'.heap[gb425]? = some (XM.mapObj Value.bool x426000_4)) ∧ Aside0 (w'.heap[gb427]? = some (.cells #[.int .i64 ((rd_T113 l0_2 x81_3).f0), .int .i64 ((rd_T113 l0_2 x81_3).f1), .int .i64 ((rd_T113 l0_2 x81_3).f2), .string ((rd_T113 l0_2 x81_3).f3), (.slice A426_4 ((rd_T113 l0_2 x81_3).f4).length c426_4)] 113 (0, 0))) ∧ Aside0 (Below w.heap.size w w'))
  case atStart => exact ⟨(0), (x426000_3), Xr, H', Xkr, BK414, BK425, BK427, ⟨Xi⟩⟩
  clear H'
  (try clear c9); (try clear c11); (try clear c11b0); (try clear c70); (try clear c70b0); (try clear c71); (try clear c71b0); (try clear c72); (try clear c72b0); (try clear hcz10_0); (try clear hcz10_1); (try clear hcz10_2); (try clear hcz69_0); (try clear hcz69_1); (try clear hcz69_2); (try clear hcz76_0); (try clear hcz76_1); (try clear hcz76_2); (try clear hcz76_3); (try clear hcz76_4); (try clear hcz78_0); (try clear hcz78_1); (try clear hcz78_2); (try clear hcz78_3); (try clear hcz78_4); (try clear hfz10_0); (try clear hfz10_1); (try clear hfz10_2); (try clear hfz69_0); (try clear hfz69_1); (try clear hfz69_2); (try clear hfz76_0); (try clear hfz76_1); (try clear hfz76_2); (try clear hfz76_3); (try clear hfz76_4); (try clear hfz78_0); (try clear hfz78_1); (try clear hfz78_2); (try clear hfz78_3); (try clear hfz78_4); (try clear hx426_0); (try clear hx426_1); (try clear hx426_2); (try clear hx426_3); (try clear hx426_4); (try clear p426); (try clear q426)
  obtain ⟨x88_4, x426000_4, rfl, HA, HK4, BK414, BK425, BK427, HB⟩ := hrel
  cases gk with | zero => cases HA.out | succ k4 => ?_
  have H := HA.out
  clear HA
  simp only [impl_DocOK.l2] at H
  obtain ⟨c79b0, H⟩ | ⟨c79b0, H⟩ := Xit H
  ·obtain ⟨c80b0, H⟩ := Xid H
   obtain ⟨c81b0, H⟩ := Xid H
   have HC82 := Aside0.mk H
   clear H
   have p428 : 0 ≤ (x88_4 : Int) := of_decide_eq_true Xa
   have q428 : x88_4 < (((rd_T113 l0_2 x81_3).f4).length : Int) := of_decide_eq_true Xa
   obtain ⟨ad428, e428, hx428_0⟩ := Kd.at_int HR426_4.out x88_4 p428 q428
   cases e428
   replace hx428_0 := Xm HB hx428_0
   replace p428 := eq_true p428
   replace q428 := eq_true q428
   go_upto_region 16 with (fail)
   go_cut [105] (fun v105 wc => ∃ (kq : Nat) (x105_81 : Bool), v105 = .bool x105_81 ∧ Aside0 (impl_DocOK.j5 kq (rd ((rd_T113 l0_2 x81_3).f4) x88_4) l0_2 (l0_2.length : Int) x81_3 ((rd_T113 l0_2 x81_3).f4) (((rd_T113 l0_2 x81_3).f4).length : Int) x88_4 x105_81 a0_0 a0_1 l0_2 x426000_4 = some r) ∧ Aside0 (kq ≤ k4) ∧ Aside0 (wc.heap[gb414]? = some (.cells #[.int .i64 a0_0, .int .i64 a0_1, (.slice (some ad426) l0_2.length c0_2)] 35 (0, 0))) ∧ Aside0 (wc.heap[gb425]? = some (XM.mapObj Value.bool x426000_4)) ∧ Aside0 (wc.heap[gb427]? = some (.cells #[.int .i64 ((rd_T113 l0_2 x81_3).f0), .int .i64 ((rd_T113 l0_2 x81_3).f1), .int .i64 ((rd_T113 l0_2 x81_3).f2), .string ((rd_T113 l0_2 x81_3).f3), (.slice (some ad428) ((rd_T113 l0_2 x81_3).f4).length c426_4)] 113 (0, 0))) ∧ Aside0 (Below w.heap.size w wc))
   case first =>
    have H := HC82.out
    clear HC82
    obtain ⟨c83, H⟩ | ⟨c83, H⟩ := Xiu H
    ·have c83b0 : XM.get false x426000_4 (rd ((rd_T113 l0_2 x81_3).f4) x88_4) = true := c83
     clear c83
     (first | rw [c83b0] | (simp only [i64_w, i32_w]; rw [c83b0]) | skip)
     have H' := Aside0.mk H
     clear H
     go_wp2_with (first | ((with_reducible refine gate_dst (N := 94) rfl ?_); (try (refine gate_guard (by rfl) ?_; dsimp only)); refine XM.lookup_event (enc := Value.bool) rfl (N := 94) rfl 134 _ _ rfl false (rd ((rd_T113 l0_2 x81_3).f4) x88_4) (g := gb425) (xs := x426000_4) rfl rfl (by first | (exact BK425.out)) Tryz.underlying134 Tryz.underlying3 (by first | rfl | (go_simp; done) | (go_simp; rfl)) ?_))
     go_meet
     case rel => exact ⟨_, (true), Xr, H', ⟨by have := HJ1.out; have := HK2.out; have := HK3.out; have := HK4.out; first | omega | exact Nat.le_refl _⟩, BK414, BK425, BK427, ⟨Xi⟩⟩
    have c83b0 : XM.get false x426000_4 (rd ((rd_T113 l0_2 x81_3).f4) x88_4) = false := by simpa using c83
    clear c83
    (first | rw [c83b0] | (simp only [i64_w, i32_w]; rw [c83b0]) | skip)
    obtain ⟨c84, H⟩ | ⟨c84, H⟩ := Xiu H
    ·have c84b0 : ((rd ((rd_T113 l0_2 x81_3).f4) x88_4) == a0_0) = true := beq_iff_eq.mpr c84
     have c84b1 : ((rd ((rd_T113 l0_2 x81_3).f4) x88_4) != a0_0) = false := bne_eq_false_iff_eq.mpr c84
     clear c84
     have H' := Aside0.mk H
     clear H
     have hnb85 := NB414_425.out
     have hnc85 := NB425_414.out
     have hnb86 := NB414_427.out
     have hnc86 := NB427_414.out
     obtain ⟨hcz87_0, hcz87_1, hcz87_2⟩ := Xc3 BK414
     obtain ⟨hfz87_0, hfz87_1, hfz87_2⟩ := Xf3 BK414
     go_wp2_with (first | ((with_reducible refine gate_dst (N := 94) rfl ?_); (try (refine gate_guard (by rfl) ?_; dsimp only)); refine XM.lookup_event (enc := Value.bool) rfl (N := 94) rfl 134 _ _ rfl false (rd ((rd_T113 l0_2 x81_3).f4) x88_4) (g := gb425) (xs := x426000_4) rfl rfl (by first | (exact BK425.out)) Tryz.underlying134 Tryz.underlying3 (by first | rfl | (go_simp; done) | (go_simp; rfl)) ?_))
     go_meet
     case rel => exact ⟨_, (true), Xr, H', ⟨by have := HJ1.out; have := HK2.out; have := HK3.out; have := HK4.out; first | omega | exact Nat.le_refl _⟩, BK414, BK425, BK427, ⟨Xi⟩⟩
    have c84b0 : ((rd ((rd_T113 l0_2 x81_3).f4) x88_4) == a0_0) = false := beq_eq_false_iff_ne.mpr c84
    have c84b1 : ((rd ((rd_T113 l0_2 x81_3).f4) x88_4) != a0_0) = true := bne_iff_ne.mpr c84
    obtain ⟨t429, A88, H⟩ := Xbi H
    try dsimp only at H
    have H' := Aside0.mk H
    clear H
    have hnb89 := NB414_425.out
    have hnc89 := NB425_414.out
    have hnb90 := NB414_427.out
    have hnc90 := NB427_414.out
    obtain ⟨hcz91_0, hcz91_1, hcz91_2⟩ := Xc3 BK414
    obtain ⟨hfz91_0, hfz91_1, hfz91_2⟩ := Xf3 BK414
    go_wp2_with (first | ((with_reducible refine gate_dst (N := 94) rfl ?_); (try (refine gate_guard (by rfl) ?_; dsimp only)); refine XM.lookup_event (enc := Value.bool) rfl (N := 94) rfl 134 _ _ rfl false (rd ((rd_T113 l0_2 x81_3).f4) x88_4) (g := gb425) (xs := x426000_4) rfl rfl (by first | (exact BK425.out)) Tryz.underlying134 Tryz.underlying3 (by first | rfl | (go_simp; done) | (go_simp; rfl)) ?_) | (go_at_call 125; (with_reducible refine (impl_Doc_has.calls k4 gb414 a0_0 a0_1 (some ad426) c0_2 l0_2 (rd ((rd_T113 l0_2 x81_3).f4) x88_4) t429 _ ?side1 ?side2 ?side3 A88.out).mono ?_); (case side1 => exact BK414.out); (case side2 => exact Xc HR0_2); (case side3 => exact HC0_2.out); rintro e w92 ⟨rfl, hb⟩; replace BK414 := Xbb BK414 hb; replace BK425 := Xbb BK425 hb; replace BK427 := Xbb BK427 hb; replace HB := Aside0.mk (below_step Xi hb); clear hb))
    go_meet
    case rel => exact ⟨_, (!t429), Xr, H', ⟨by have := HJ1.out; have := HK2.out; have := HK3.out; have := HK4.out; first | omega | exact Nat.le_refl _⟩, BK414, BK425, BK427, ⟨Xi⟩⟩
   clear HC82
   (try clear c9); (try clear c11); (try clear c11b0); (try clear c70); (try clear c70b0); (try clear c71); (try clear c71b0); (try clear c72); (try clear c72b0); (try clear c79); (try clear c79b0); (try clear c80); (try clear c80b0); (try clear c81); (try clear c81b0); (try clear hcz10_0); (try clear hcz10_1); (try clear hcz10_2); (try clear hcz69_0); (try clear hcz69_1); (try clear hcz69_2); (try clear hcz76_0); (try clear hcz76_1); (try clear hcz76_2); (try clear hcz76_3); (try clear hcz76_4); (try clear hcz78_0); (try clear hcz78_1); (try clear hcz78_2); (try clear hcz78_3); (try clear hcz78_4); (try clear hfz10_0); (try clear hfz10_1); (try clear hfz10_2); (try clear hfz69_0); (try clear hfz69_1); (try clear hfz69_2); (try clear hfz76_0); (try clear hfz76_1); (try clear hfz76_2); (try clear hfz76_3); (try clear hfz76_4); (try clear hfz78_0); (try clear hfz78_1); (try clear hfz78_2); (try clear hfz78_3); (try clear hfz78_4); (try clear hx426_0); (try clear hx426_1); (try clear hx426_2); (try clear hx426_3); (try clear hx426_4); (try clear hx428_0); (try clear p426); (try clear p428); (try clear q426); (try clear q428)
   obtain ⟨kq, x105_81, rfl, HA, HJ81, BK414, BK425, BK427, HB⟩ := hcut
   cases kq with | zero => cases HA.out | succ kj81 => ?_
   have H := HA.out
   clear HA
   simp only [impl_DocOK.j5] at H
   by_cases c93 : x105_81 = true
   ·subst c93
    try rw [if_pos rfl] at H
    obtain rfl := Option.some.inj H
    go_wp2
    go_ret
    exact ⟨Xe, Xi⟩
   replace c93 := Bool.eq_false_iff.mpr c93
   subst c93
   try rw [if_neg (show ¬ (false = true) by decide)] at H
   have H' := Aside0.mk H
   clear H
   go_wp2_with (first | ((with_reducible refine XM.gate_update (t := 134) rfl ?_); refine XM.update_event (enc := Value.bool) rfl rfl 134 _ _ _ rfl (rd ((rd_T113 l0_2 x81_3).f4) x88_4) true (g := gb425) (xs := x426000_4) rfl rfl rfl (by first | (exact BK425.out)) Tryz.underlying134 Tryz.underlying3 ?_; intro w94 hbox hg; replace BK414 := Aside0.mk (blk_grown (g := gb414) (o := .cells #[.int .i64 a0_0, .int .i64 a0_1, .slice (some ad426) l0_2.length c0_2] 35 (0, 0)) BK414.out hg (fun e_ => NB414_425.out (Option.some.inj e_))); replace BK425 := Aside0.mk (hbox); replace BK427 := Aside0.mk (blk_grown (g := gb427) (o := .cells #[.int .i64 ((rd_T113 l0_2 x81_3).f0), .int .i64 ((rd_T113 l0_2 x81_3).f1), .int .i64 ((rd_T113 l0_2 x81_3).f2), .string ((rd_T113 l0_2 x81_3).f3), .slice (some ad428) ((rd_T113 l0_2 x81_3).f4).length c426_4] 113 (0, 0)) BK427.out hg (fun e_ => NB427_425.out (Option.some.inj e_))); replace HB := Aside0.mk (Below.grown Xi hg HB.out.size (fun k_ e_ => Option.some.inj e_ ▸ GE425.out)); clear hbox hg))
   go_roundg kj81
   case measure => have := HJ1.out; have := HK2.out; have := HK3.out; have := HK4.out; have := HJ81.out; omega
   case rel => exact ⟨(wrap64 (x88_4 + 1)), (XM.put x426000_4 (rd ((rd_T113 l0_2 x81_3).f4) x88_4) true), Xr, H', ⟨by have := HJ1.out; have := HK2.out; have := HK3.out; have := HK4.out; have := HJ81.out; omega⟩, BK414, BK425, BK427, ⟨Xi⟩⟩
  have H' := Aside0.mk H
  clear H
  go_wp2
  go_roundg k4
  case measure => have := HJ1.out; have := HK2.out; have := HK3.out; have := HK4.out; omega
  case rel => exact ⟨(wrap64 (x81_3 + 1)), (x426000_4), Xr, H', ⟨by have := HJ1.out; have := HK2.out; have := HK3.out; have := HK4.out; omega⟩, BK414, BK425, ⟨Xi⟩⟩
 have HC95 := Aside0.mk H
 clear H
 go_upto_region 21 with (fail)
 go_cut [125] (fun v125 wc => ∃ (kq : Nat) (x125_94 : Bool), v125 = .bool x125_94 ∧ Aside0 (impl_DocOK.j6 kq x125_94 a0_0 a0_1 l0_2 = some r) ∧ Aside0 (kq ≤ k3) ∧ Aside0 (wc.heap[gb414]? = some (.cells #[.int .i64 a0_0, .int .i64 a0_1, (.slice A0_2 l0_2.length c0_2)] 35 (0, 0))) ∧ Aside0 (wc.heap[gb425]? = some (XM.mapObj Value.bool x426000_3)) ∧ Aside0 (Below w.heap.size w wc))
 case first =>
  have H := HC95.out
  clear HC95
  obtain ⟨t430, A96, H⟩ := Xbi H
  try dsimp only at H
  by_cases c97 : t430 = true
  ·subst c97
   try rw [if_pos rfl] at H
   obtain ⟨c98, H⟩ | ⟨c98, H⟩ := Xiu H
   ·have c98b0 : ((x426000_3.length : Int) == (wrap64 ((l0_2.length : Int) - 1))) = true := beq_iff_eq.mpr c98
    have c98b1 : ((x426000_3.length : Int) != (wrap64 ((l0_2.length : Int) - 1))) = false := bne_eq_false_iff_eq.mpr c98
    clear c98
    (first | rw [c98b0] | (simp only [i64_w, i32_w]; rw [c98b0]) | skip)
    obtain ⟨t431, A99, H⟩ := Xbi H
    try dsimp only at H
    have H' := Aside0.mk H
    clear H
    have hnb100 := NB414_425.out
    have hnc100 := NB425_414.out
    obtain ⟨hcz101_0, hcz101_1, hcz101_2⟩ := Xc3 BK414
    obtain ⟨hfz101_0, hfz101_1, hfz101_2⟩ := Xf3 BK414
    go_wp2_with (first | ((with_reducible refine gate_callee (f := 125) rfl ?_); refine Xgo 112 Tryz.func125 #[.pointer (some ⟨gb414, 0, none⟩), .int .i64 a0_0] ?_; (with_reducible refine (impl_Doc_has.calls k3 gb414 a0_0 a0_1 A0_2 c0_2 l0_2 a0_0 true _ ?side1 ?side2 ?side3 A96.out).mono ?_); (case side1 => exact BK414.out); (case side2 => exact Xc HR0_2); (case side3 => exact HC0_2.out); rintro e w102 ⟨rfl, hb⟩; refine ⟨_, rfl, ?_⟩; replace BK414 := Xbb BK414 hb; replace BK425 := Xbb BK425 hb; replace HB := Aside0.mk (below_step Xi hb); clear hb; obtain ⟨hcz103_0, hcz103_1, hcz103_2⟩ := Xc3 BK414; obtain ⟨hfz103_0, hfz103_1, hfz103_2⟩ := Xf3 BK414) | ((with_reducible refine gate_dst (N := 116) rfl ?_); (try (refine gate_guard (by rfl) ?_; dsimp only)); refine XM.len_event (enc := Value.bool) rfl (N := 116) rfl 134 _ rfl (g := gb425) (xs := x426000_3) rfl (by first | (exact BK425.out)) Tryz.underlying134 ?_) | (go_at_call 126; (with_reducible refine (impl_Doc_isDeep.calls k3 gb414 a0_0 a0_1 A0_2 c0_2 l0_2 t431 _ ?side1 ?side2 ?side3 A99.out).mono ?_); (case side1 => exact BK414.out); (case side2 => exact Xc HR0_2); (case side3 => exact HC0_2.out); rintro e w104 ⟨rfl, hb⟩; replace BK414 := Xbb BK414 hb; replace BK425 := Xbb BK425 hb; replace HB := Aside0.mk (below_step Xi hb); clear hb))
    go_meet
    case rel => exact ⟨_, (t431), Xr, H', ⟨by have := HJ1.out; have := HK2.out; have := HK3.out; first | omega | exact Nat.le_refl _⟩, BK414, BK425, ⟨Xi⟩⟩
   have c98b0 : ((x426000_3.length : Int) == (wrap64 ((l0_2.length : Int) - 1))) = false := beq_eq_false_iff_ne.mpr c98
   have c98b1 : ((x426000_3.length : Int) != (wrap64 ((l0_2.length : Int) - 1))) = true := bne_iff_ne.mpr c98
   (first | rw [c98b0] | (simp only [i64_w, i32_w]; rw [c98b0]) | skip)
   have H' := Aside0.mk H
   clear H
   have hnb105 := NB414_425.out
   have hnc105 := NB425_414.out
   obtain ⟨hcz106_0, hcz106_1, hcz106_2⟩ := Xc3 BK414
   obtain ⟨hfz106_0, hfz106_1, hfz106_2⟩ := Xf3 BK414
   go_wp2_with (first | ((with_reducible refine gate_callee (f := 125) rfl ?_); refine Xgo 112 Tryz.func125 #[.pointer (some ⟨gb414, 0, none⟩), .int .i64 a0_0] ?_; (with_reducible refine (impl_Doc_has.calls k3 gb414 a0_0 a0_1 A0_2 c0_2 l0_2 a0_0 true _ ?side1 ?side2 ?side3 A96.out).mono ?_); (case side1 => exact BK414.out); (case side2 => exact Xc HR0_2); (case side3 => exact HC0_2.out); rintro e w107 ⟨rfl, hb⟩; refine ⟨_, rfl, ?_⟩; replace BK414 := Xbb BK414 hb; replace BK425 := Xbb BK425 hb; replace HB := Aside0.mk (below_step Xi hb); clear hb; obtain ⟨hcz108_0, hcz108_1, hcz108_2⟩ := Xc3 BK414; obtain ⟨hfz108_0, hfz108_1, hfz108_2⟩ := Xf3 BK414) | ((with_reducible refine gate_dst (N := 116) rfl ?_); (try (refine gate_guard (by rfl) ?_; dsimp only)); refine XM.len_event (enc := Value.bool) rfl (N := 116) rfl 134 _ rfl (g := gb425) (xs := x426000_3) rfl (by first | (exact BK425.out)) Tryz.underlying134 ?_))
   go_meet
   case rel => exact ⟨_, (true), Xr, H', ⟨by have := HJ1.out; have := HK2.out; have := HK3.out; first | omega | exact Nat.le_refl _⟩, BK414, BK425, ⟨Xi⟩⟩
  replace c97 := Bool.eq_false_iff.mpr c97
  subst c97
  try rw [if_neg (show ¬ (false = true) by decide)] at H
  have H' := Aside0.mk H
  clear H
  have hnb109 := NB414_425.out
  have hnc109 := NB425_414.out
  obtain ⟨hcz110_0, hcz110_1, hcz110_2⟩ := Xc3 BK414
  obtain ⟨hfz110_0, hfz110_1, hfz110_2⟩ := Xf3 BK414
  go_wp2_with (first | ((with_reducible refine gate_callee (f := 125) rfl ?_); refine Xgo 112 Tryz.func125 #[.pointer (some ⟨gb414, 0, none⟩), .int .i64 a0_0] ?_; (with_reducible refine (impl_Doc_has.calls k3 gb414 a0_0 a0_1 A0_2 c0_2 l0_2 a0_0 false _ ?side1 ?side2 ?side3 A96.out).mono ?_); (case side1 => exact BK414.out); (case side2 => exact Xc HR0_2); (case side3 => exact HC0_2.out); rintro e w111 ⟨rfl, hb⟩; refine ⟨_, rfl, ?_⟩; replace BK414 := Xbb BK414 hb; replace BK425 := Xbb BK425 hb; replace HB := Aside0.mk (below_step Xi hb); clear hb))
  go_meet
  case rel => exact ⟨_, (true), Xr, H', ⟨by have := HJ1.out; have := HK2.out; have := HK3.out; first | omega | exact Nat.le_refl _⟩, BK414, BK425, ⟨Xi⟩⟩
 clear HC95
 (try clear c9); (try clear c11); (try clear c11b0); (try clear c70); (try clear c70b0); (try clear hcz10_0); (try clear hcz10_1); (try clear hcz10_2); (try clear hcz69_0); (try clear hcz69_1); (try clear hcz69_2); (try clear hfz10_0); (try clear hfz10_1); (try clear hfz10_2); (try clear hfz69_0); (try clear hfz69_1); (try clear hfz69_2)
 obtain ⟨kq, x125_94, rfl, HA, HJ94, BK414, BK425, HB⟩ := hcut
 cases kq with | zero => cases HA.out | succ kj94 => ?_
 have H := HA.out
 clear HA
 simp only [impl_DocOK.j6] at H
 by_cases c112 : x125_94 = true
 ·subst c112
  try rw [if_pos rfl] at H
  obtain rfl := Option.some.inj H
  go_wp2
  go_ret
  exact ⟨Xe, Xi⟩
 replace c112 := Bool.eq_false_iff.mpr c112
 subst c112
 try rw [if_neg (show ¬ (false = true) by decide)] at H
 obtain ⟨t432, A113, H⟩ := Xbi H
 try dsimp only at H
 obtain rfl := Option.some.inj H
 try go_wp2_with (fail)
 replace BK414 := Aside0.mk (blk_drew BK414.out)
 replace BK425 := Aside0.mk (blk_drew BK425.out)
 replace HB := Aside0.mk (below_drew1 HB.out)
 refine start_ (n := 9) (S := fun w' => w'.cell? ⟨gb414, 0, none⟩ = some (.int .i64 a0_0) ∧ w'.cell? ⟨gb414, 1, none⟩ = some (.int .i64 a0_1) ∧ w'.cell? ⟨gb414, 2, none⟩ = some (.slice A0_2 l0_2.length c0_2)) (ds := []) #[false, false, false, false, false, false, false, false, false] (by kernel_rfl) rfl rfl ⟨(blk_cell BK414.out 0).trans rfl, (blk_cell BK414.out 1).trans rfl, (blk_cell BK414.out 2).trans rfl⟩ (fun hHeld => ?_); refine with_tabW impl_DocOK.tab23 impl_DocOK.bits23 (fun HT_ HW_ => ?_)
 generalize wc.drew = w114 at BK414 BK425 HB hHeld ⊢
 refine Xpu 0 126 (XW.bs 9 1) HT_.out ?_
 refine Xpu 4 130 (XW.bs 9 17) HT_.out ?_
 refine Xta 1 127 (XW.bs 9 19) HT_.out HW_.out hHeld ?_
 refine Xta 5 131 (XW.bs 9 51) HT_.out HW_.out hHeld ?_
 refine Xpu 6 132 (XW.bs 9 115) HT_.out ?_
 refine one_ (i := 2) (N := some 128) (XW.bs 9 119) rfl rfl (one_of HT_.out (by kernel_rfl)) (by decide) (fun K hK => ?_)
 refine goes_ Tryz.func127 (by kernel_rfl) rfl #[.pointer (some ⟨gb414, 0, none⟩), .slice none 0 0, .int .i64 a0_0] (by rfl) rfl rfl (by (try simp only [List.map_toArray, List.map_cons, List.map_nil]); first | done | rfl | (simp only [List.length_drop, List.length_take]; rfl)) ?_
 refine (impl_Doc_order.calls kj94 gb414 a0_0 a0_1 A0_2 c0_2 l0_2 (fun k_ => some k_ = (.slice none 0 0 : Value).ownBlock) (.slice none 0 0) ([] : List Int) a0_0 t432 w _ ?side1 ?side2 ?side3 ?side4 ?side5 A113.out).mono ?_
 (case side1 => exact Xi)
 (case side2 => exact BK414.out)
 (case side3 => exact Kd.C_kept_came k113_heap HR0_2.out Xi (fun k_ hs_ => (fun e_ => by simp [Value.ownBlock] at e_) hs_))
 (case side4 => exact HC0_2.out)
 (case side5 => exact Kd.R_nil _ _ _ _ _)
 rintro e w115 ⟨v433, rfl, ho0, hb, hkp⟩
 refine ⟨_, rfl, ?_⟩
 replace BK414 := Aside0.mk (blk_kept BK414.out hkp (fun hs_ => (fun e_ => by simp [Value.ownBlock] at e_) hs_))
 replace BK425 := Aside0.mk (blk_kept BK425.out hkp (fun hs_ => (fun e_ => by simp [Value.ownBlock] at e_) hs_))
 have HO434 := Aside0.mk (Kd.R_mono (ok' := fun k_ => True) ho0 (fun k_ hk_ => trivial))
 replace HB := Aside0.mk (hb)
 try clear hb
 try clear hkp
 try clear ho0
 obtain ⟨Ao116, co116, eo116⟩ := Kd.R_slice HO434.out
 (first | subst eo116 | (injection eo116 with f1_ f2_ f3_; have f4_ := f1_.symm; have f5_ := f3_.symm; clear f1_ f2_ f3_; subst f4_; subst f5_))
 refine hK.out _ _ ⟨(blk_cell BK414.out 0).trans rfl, (blk_cell BK414.out 1).trans rfl, (blk_cell BK414.out 2).trans rfl⟩ (fun hHeld => ?_)
 clear hK K
 refine Xno ?_
 refine Xpu 3 129 (XW.bs 9 127) HT_.out ?_
 refine Xpu 7 133 (XW.bs 9 255) HT_.out ?_
 refine Xpu 8 2 (XW.bs 9 511) HT_.out ?_
 refine done_ (done_of HT_.out (by kernel_rfl)) ?_
 try go_wp2_with (fail)
 go_ret
 exact ⟨Xe, Xi⟩
mutual
def impl_HoldsOK.j0 : Nat → List (S39) → Bool → Int → Int → List (S113) → Option (Bool)
 | 0, _, _, _, _, _ => none
 | k + 1, x1, x14, x453000, x453001, x453002 => if x14 = true then (some false) else (impl_HoldsOK.l0 k x1 x1 (x1.length : Int) 0 x453000 x453001 x453002)
def impl_HoldsOK.l0 : Nat → List (S39) → List (S39) → Int → Int → Int → Int → List (S113) → Option (Bool)
 | 0, _, _, _, _, _, _, _ => none
 | k + 1, x1, x15, x16, x17, x453000, x453001, x453002 => if x17 < x16 then (if 0 ≤ x17 then (if x17 < (x15.length : Int) then ((impl_Doc_isHold.f k x453000 x453001 x453002 ((rd_T39 x15 x17).f0) ((rd_T39 x15 x17).f1) ((rd_T39 x15 x17).f2)).bind fun t456 => (if t456 = true then (if x17 > 0 then (if 0 ≤ (wrap64 (x17 - 1)) then (if (wrap64 (x17 - 1)) < (x1.length : Int) then ((impl_compareHolds.f k ((rd_T39 x1 (wrap64 (x17 - 1))).f0) ((rd_T39 x1 (wrap64 (x17 - 1))).f1) ((rd_T39 x1 (wrap64 (x17 - 1))).f2) ((rd_T39 x15 x17).f0) ((rd_T39 x15 x17).f1) ((rd_T39 x15 x17).f2)).bind fun t458 => (if t458 ≥ 0 then (some false) else (impl_HoldsOK.l0 k x1 x15 x16 (wrap64 (x17 + 1)) x453000 x453001 x453002))) else (none)) else (none)) else (impl_HoldsOK.l0 k x1 x15 x16 (wrap64 (x17 + 1)) x453000 x453001 x453002)) else (some false))) else (none)) else (none)) else (some true)
end
def impl_HoldsOK.f (k : Nat) (a0_0 : Int) (a0_1 : Int) (l0_2 : List (S113)) (l1 : List (S39)) : Option (Bool) := (impl_DocOK.f k a0_0 a0_1 l0_2).bind fun t453 => (if t453 = true then (impl_HoldsOK.j0 k l1 (decide ((l1.length : Int) > 30)) a0_0 a0_1 l0_2) else (impl_HoldsOK.j0 k l1 true a0_0 a0_1 l0_2))
def impl_HoldsOK.T6 : Bool × List (List Nat × List Nat) := (true, [([], []), ([0], [0]), ([1], [1]), ([2, 1], [2]), ([3], [3]), ([4, 3], [3, 4]), ([5, 3, 3], [3, 5]), ([6], [6]), ([6], [6]), ([8, 6], [6, 8]), ([7, 9, 6], [6, 7, 9]), ([10, 6], [6, 10]), ([6], [6]), ([11, 12, 6, 6], [6, 11, 12]), ([13, 6], [6, 13]), ([6, 14, 3], [3, 6, 14]), ([3, 15], [3, 15])])
def impl_HoldsOK.B6 : List Nat := [0, 1, 3, 7, 15, 31, 63, 127, 127, 383, 1023, 2047, 127, 8191, 16383, 32767, 65535]
theorem impl_HoldsOK.tab6 : rtab .any (opsOf Tryz.f31 6) = impl_HoldsOK.T6 := by kernel_rfl
theorem impl_HoldsOK.bits6 : waitsOk impl_HoldsOK.T6.2 impl_HoldsOK.B6 = true := by kernel_rfl
theorem impl_HoldsOK.calls (k : Nat) (a0_0 : Int) (a0_1 : Int) (A0_2 : Option Addr) (c0_2 : Nat) (l0_2 : List (S113)) (A1 : Option Addr) (c1 : Nat) (l1 : List (S39)) (r : Bool) (w : World) (hr0_2 : Kd.C k113 w A0_2 l0_2.length l0_2) (hc0_2 : l0_2.length ≤ c0_2) (hr1 : Kd.C k39 w A1 l1.length l1) (hc1 : l1.length ≤ c1) (h : impl_HoldsOK.f k a0_0 a0_1 l0_2 l1 = some r) :
  Calls Tryz.prog 31 #[.agg #[.int .i64 a0_0, .int .i64 a0_1, .slice A0_2 l0_2.length c0_2], .slice A1 l1.length c1] w fun e w' => e = .returned (.bool r) ∧ Below w.heap.size w w' := by
 have hu35 := Tryz.underlying35
 have hu39 := Tryz.underlying39
 have HR0_2 := Aside0.mk hr0_2
 have HC0_2 := Aside0.mk hc0_2
 clear hr0_2 hc0_2
 have HR1 := Aside0.mk hr1
 have HC1 := Aside0.mk hc1
 clear hr1 hc1
 have HB := Aside0.mk (Below.refl w.heap.size w)
 have H : ((impl_DocOK.f k a0_0 a0_1 l0_2).bind fun t453 => (if t453 = true then (impl_HoldsOK.j0 k l1 (decide ((l1.length : Int) > 30)) a0_0 a0_1 l0_2) else (impl_HoldsOK.j0 k l1 true a0_0 a0_1 l0_2))) = some r := h
 clear h
 have HC3 := Aside0.mk H
 clear H
 go_enter Tryz.func31, Tryz.ntmps31
 go_upto_region 1 with (first | ((with_reducible refine gate_dst (N := 2) rfl ?_); (try (refine gate_guard (by rfl) ?_; dsimp only)); refine Xbox 2 #[.int .i64 a0_0, .int .i64 a0_1, .slice A0_2 l0_2.length c0_2] 35 ?_; intro gb452 hg w4 hbox hb; have BK452 := Aside0.mk (hbox); have GE452 := Xge hg Xi; replace HB := Aside0.mk (below_step Xi hb); clear hb hbox hg))
 (try simp only [XW.q0, XW.q1, XW.q2])
 go_cut [14] (fun v14 wc => ∃ (kq : Nat) (x14_2 : Bool), v14 = .bool x14_2 ∧ Aside0 (impl_HoldsOK.j0 kq l1 x14_2 a0_0 a0_1 l0_2 = some r) ∧ Aside0 (kq ≤ k) ∧ Aside0 (wc.heap[gb452]? = some (.cells #[.int .i64 a0_0, .int .i64 a0_1, (.slice A0_2 l0_2.length c0_2)] 35 (0, 0))) ∧ Aside0 (Below w.heap.size w wc))
 case first =>
  have H := HC3.out
  clear HC3
  obtain ⟨t453, A5, H⟩ := Xbi H
  try dsimp only at H
  by_cases c6 : t453 = true
  ·subst c6
   try rw [if_pos rfl] at H
   have H' := Aside0.mk H
   clear H
   obtain ⟨hcz7_0, hcz7_1, hcz7_2⟩ := Xc3 BK452
   obtain ⟨hfz7_0, hfz7_1, hfz7_2⟩ := Xf3 BK452
   go_wp2_with (first | ((with_reducible refine gate_callee (f := 68) rfl ?_); refine Xgo 8 Tryz.func68 #[.agg #[.int .i64 a0_0, .int .i64 a0_1, .slice A0_2 l0_2.length c0_2]] ?_; (with_reducible refine (impl_DocOK.calls k a0_0 a0_1 _ _ l0_2 true _ ?side1 ?side2 A5.out).mono ?_); (case side1 => exact Xc HR0_2); (case side2 => exact HC0_2.out); rintro e w8 ⟨rfl, hb⟩; refine ⟨_, rfl, ?_⟩; replace BK452 := Xbb BK452 hb; replace HB := Aside0.mk (below_step Xi hb); clear hb))
   go_meet
   case rel => exact ⟨_, (decide ((l1.length : Int) > 30)), Xr, H', Xko, BK452, ⟨Xi⟩⟩
  replace c6 := Bool.eq_false_iff.mpr c6
  subst c6
  try rw [if_neg (show ¬ (false = true) by decide)] at H
  have H' := Aside0.mk H
  clear H
  obtain ⟨hcz9_0, hcz9_1, hcz9_2⟩ := Xc3 BK452
  obtain ⟨hfz9_0, hfz9_1, hfz9_2⟩ := Xf3 BK452
  go_wp2_with (first | ((with_reducible refine gate_callee (f := 68) rfl ?_); refine Xgo 8 Tryz.func68 #[.agg #[.int .i64 a0_0, .int .i64 a0_1, .slice A0_2 l0_2.length c0_2]] ?_; (with_reducible refine (impl_DocOK.calls k a0_0 a0_1 _ _ l0_2 false _ ?side1 ?side2 A5.out).mono ?_); (case side1 => exact Xc HR0_2); (case side2 => exact HC0_2.out); rintro e w10 ⟨rfl, hb⟩; refine ⟨_, rfl, ?_⟩; replace BK452 := Xbb BK452 hb; replace HB := Aside0.mk (below_step Xi hb); clear hb))
  go_meet
  case rel => exact ⟨_, (true), Xr, H', Xko, BK452, ⟨Xi⟩⟩
 clear HC3
 try clear c1
 obtain ⟨kq, x14_2, rfl, HA, HJ2, BK452, HB⟩ := hcut
 cases kq with | zero => cases HA.out | succ kj2 => ?_
 have H := HA.out
 clear HA
 simp only [impl_HoldsOK.j0] at H
 by_cases c11 : x14_2 = true
 ·subst c11
  try rw [if_pos rfl] at H
  obtain rfl := Option.some.inj H
  go_wp2
  go_ret
  exact ⟨Xe, Xi⟩
 replace c11 := Bool.eq_false_iff.mpr c11
 subst c11
 try rw [if_neg (show ¬ (false = true) by decide)] at H
 have H' := Aside0.mk H
 clear H
 go_wp2
 go_loopg [17] kj2 (fun kq v17 w' => ∃ (x17_2 : Int), v17 = .int .i64 x17_2 ∧ Aside0 (impl_HoldsOK.l0 kq l1 l1 (l1.length : Int) x17_2 a0_0 a0_1 l0_2 = some r) ∧ Aside0 (kq ≤ kj2) ∧ Aside0 (w'.heap[gb452]? = some (.cells #[.int .i64 a0_0, .int .i64 a0_1, (.slice A0_2 l0_2.length c0_2)] 35 (0, 0))) ∧ Aside0 (Below w.heap.size w w'))
 case atStart => exact ⟨(0), Xr, H', Xkr, BK452, ⟨Xi⟩⟩
 clear H'
 (try clear c1); (try clear c11)
 obtain ⟨x17_2, rfl, HA, HK2, BK452, HB⟩ := hrel
 cases gk with | zero => cases HA.out | succ k2 => ?_
 have H := HA.out
 clear HA
 simp only [impl_HoldsOK.l0] at H
 obtain ⟨c12b0, H⟩ | ⟨c12b0, H⟩ := Xit H
 ·obtain ⟨c13b0, H⟩ := Xid H
  obtain ⟨c14b0, H⟩ := Xid H
  obtain ⟨t456, A15, H⟩ := Xbi H
  try dsimp only at H
  by_cases c16 : t456 = true
  ·subst c16
   try rw [if_pos rfl] at H
   obtain ⟨c17, H⟩ | ⟨c17, H⟩ := Xiu H
   ·have c17b0 : decide (0 < x17_2) = true := decide_eq_true c17
    clear c17
    obtain ⟨ji18, hji18⟩ : ∃ j_ : Int, (wrap64 (x17_2 - 1)) = j_ := ⟨_, rfl⟩
    replace H : (if 0 ≤ (ji18) then (if (ji18) < (l1.length : Int) then ((impl_compareHolds.f k2 ((rd_T39 l1 (ji18)).f0) ((rd_T39 l1 (ji18)).f1) ((rd_T39 l1 (ji18)).f2) ((rd_T39 l1 x17_2).f0) ((rd_T39 l1 x17_2).f1) ((rd_T39 l1 x17_2).f2)).bind fun t458 => (if t458 ≥ 0 then (some false) else (impl_HoldsOK.l0 k2 l1 l1 (l1.length : Int) (wrap64 (x17_2 + 1)) a0_0 a0_1 l0_2))) else (none)) else (none)) = some r := by first | (rw [hji18] at H; exact H) | (simp only [hji18] at H ⊢; exact H)
    (try rw [hji18] at A15)
    have hji18w : (IntKind.i64.wrap (x17_2 - 1)) = ji18 := (i64_w _).trans hji18
    obtain ⟨c19b0, H⟩ := Xid H
    obtain ⟨c20b0, H⟩ := Xid H
    obtain ⟨t458, A21, H⟩ := Xbi H
    try dsimp only at H
    have HC22 := Aside0.mk H
    clear H
    obtain ⟨ad454, e454, p454, q454, hx454_0, hx454_1, hx454_2⟩ := at_B39 HR1 x17_2 Xa Xa HB
    cases e454
    try go_wp2_with (first | ((with_reducible refine gate_dst (N := 6) rfl ?_); (try (refine gate_guard (by rfl) ?_; dsimp only)); refine Xbox 6 #[.int .i64 0, .int .i64 0, .int .i64 0] 39 ?_; intro gb455 hg w23 hbox hb; have BK455 := Aside0.mk (hbox); have GE455 := Xge hg Xi; have GW455 := GE455; replace HB := Aside0.mk (below_step Xi hb); have NB452_455 := Xnb hg BK452; have NB455_452 := Xns NB452_455; replace BK452 := Xbb BK452 hb; clear hb hbox hg; have hnb24 := NB455_452.out; have hnc24 := NB452_455.out; obtain ⟨hcz25_0, hcz25_1, hcz25_2⟩ := Xc3 BK455; obtain ⟨hfz25_0, hfz25_1, hfz25_2⟩ := Xf3 BK455) | ((with_reducible refine gate_store (t := 39) (p := 6) rfl ?_); refine store_event (t := 39) (p := 6) (v := ?vo_w26) (w1 := (((w23.setCell ⟨gb455, 0, none⟩ (.int .i64 ((rd_T39 l1 x17_2).f0))).setCell ⟨gb455, 1, none⟩ (.int .i64 ((rd_T39 l1 x17_2).f1))).setCell ⟨gb455, 2, none⟩ (.int .i64 ((rd_T39 l1 x17_2).f2)))) ?hg ?ho ?hn ?hr ?_; (case ho => rfl); (case hg => rfl); (case hn => rfl); (case hr => first | (go_simp; done) | (go_simp; rfl)); intro w26 hw; have n0_ : Aside0 (w26.heap[gb452]? = some (.cells #[.int .i64 a0_0, .int .i64 a0_1, .slice A0_2 l0_2.length c0_2] 35 (0, 0))) := ⟨(by rw [hw]; exact (by (with_reducible repeat (first | refine blk_drewN ?_ _ | refine blk_drew ?_ | refine blk_alloc ?_ _)); refine blk_far ?_ NB452_455.out _; (with_reducible repeat (first | refine blk_drewN ?_ _ | refine blk_drew ?_ | refine blk_alloc ?_ _)); refine blk_far ?_ NB452_455.out _; (with_reducible repeat (first | refine blk_drewN ?_ _ | refine blk_drew ?_ | refine blk_alloc ?_ _)); refine blk_far ?_ NB452_455.out _; (with_reducible repeat (first | refine blk_drewN ?_ _ | refine blk_drew ?_ | refine blk_alloc ?_ _)); exact BK452.out))⟩; have n1_ : Aside0 (w26.heap[gb455]? = some (.cells #[.int .i64 ((rd_T39 l1 x17_2).f0), .int .i64 ((rd_T39 l1 x17_2).f1), .int .i64 ((rd_T39 l1 x17_2).f2)] 39 (0, 0))) := ⟨(by rw [hw]; exact (by (with_reducible repeat (first | refine blk_drewN ?_ _ | refine blk_drew ?_ | refine blk_alloc ?_ _)); refine blk_put (cs := #[.int .i64 ((rd_T39 l1 x17_2).f0), .int .i64 ((rd_T39 l1 x17_2).f1), .int .i64 0]) ?_ 2 _ rfl; (with_reducible repeat (first | refine blk_drewN ?_ _ | refine blk_drew ?_ | refine blk_alloc ?_ _)); refine blk_put (cs := #[.int .i64 ((rd_T39 l1 x17_2).f0), .int .i64 0, .int .i64 0]) ?_ 1 _ rfl; (with_reducible repeat (first | refine blk_drewN ?_ _ | refine blk_drew ?_ | refine blk_alloc ?_ _)); refine blk_put (cs := #[.int .i64 0, .int .i64 0, .int .i64 0]) ?_ 0 _ rfl; (with_reducible repeat (first | refine blk_drewN ?_ _ | refine blk_drew ?_ | refine blk_alloc ?_ _)); exact BK455.out))⟩; have n2_ : Aside0 (Below w.heap.size w w26) := ⟨(by rw [hw]; exact Xi)⟩; clear hw; clear BK452; clear BK455; clear HB; have BK452 := n0_; have BK455 := n1_; have HB := n2_; clear n0_ n1_ n2_))
    replace BK452 := Aside0.mk (blk_drew BK452.out)
    replace BK455 := Aside0.mk (blk_drew BK455.out)
    replace HB := Aside0.mk (below_drew1 HB.out)
    have p457 : 0 ≤ ((ji18) : Int) := of_decide_eq_true Xa
    have q457 : (ji18) < (l1.length : Int) := of_decide_eq_true Xa
    obtain ⟨ad457, e457, hx457_0, hx457_1, hx457_2⟩ := at_T39 HR1.out (ji18) p457 q457
    have hw457_2 := hx457_2
    have hw457_1 := hx457_1
    have hw457_0 := hx457_0
    obtain rfl : ad454 = ad457 := (by injection e457)
    replace hx457_0 := Xm HB hx457_0
    replace hx457_1 := Xm HB hx457_1
    replace hx457_2 := Xm HB hx457_2
    replace p457 := eq_true p457
    replace q457 := eq_true q457
    refine start_ (n := 17) (S := fun w' => w'.cell? ⟨gb455, 0, none⟩ = some (.int .i64 ((rd_T39 l1 x17_2).f0)) ∧ w'.cell? ⟨gb455, 1, none⟩ = some (.int .i64 ((rd_T39 l1 x17_2).f1)) ∧ w'.cell? ⟨gb455, 2, none⟩ = some (.int .i64 ((rd_T39 l1 x17_2).f2)) ∧ w'.cell? (ad454.add (((ji18)).toNat * 3)) = some (.int .i64 ((rd_T39 l1 (ji18)).f0)) ∧ w'.cell? ⟨(ad454.add (((ji18)).toNat * 3)).block, (ad454.add (((ji18)).toNat * 3)).off + 1, none⟩ = some (.int .i64 ((rd_T39 l1 (ji18)).f1)) ∧ w'.cell? ⟨(ad454.add (((ji18)).toNat * 3)).block, (ad454.add (((ji18)).toNat * 3)).off + 2, none⟩ = some (.int .i64 ((rd_T39 l1 (ji18)).f2))) (ds := []) #[false, false, false, false, false, false, false, false, false, false, false, false, false, false, false, false, false] (by kernel_rfl) rfl rfl ⟨(blk_cell BK455.out 0).trans rfl, (blk_cell BK455.out 1).trans rfl, (blk_cell BK455.out 2).trans rfl, Xn hw457_0, Xn hw457_1, Xn hw457_2⟩ (fun hHeld => ?_); refine with_tabW impl_HoldsOK.tab6 impl_HoldsOK.bits6 (fun HT_ HW_ => ?_)
    generalize w26.drew = w27 at BK452 BK455 HB hx457_0 hx457_1 hx457_2 hHeld ⊢
    refine Xta 0 22 (XW.bs 17 1) HT_.out HW_.out hHeld ?_
    refine one_ (i := 1) (N := some 23) (XW.bs 17 3) rfl rfl (one_of HT_.out (by kernel_rfl)) (by decide) (fun K hK => ?_)
    refine goes_ Tryz.func69 (by kernel_rfl) rfl #[.pointer (some ⟨gb452, 0, none⟩), .agg #[.int .i64 ((rd_T39 l1 x17_2).f0), .int .i64 ((rd_T39 l1 x17_2).f1), .int .i64 ((rd_T39 l1 x17_2).f2)]] (by rfl) rfl rfl (by (try simp only [List.map_toArray, List.map_cons, List.map_nil]); first | done | rfl | (simp only [List.length_drop, List.length_take]; rfl)) ?_
    with_reducible refine (impl_Doc_isHold.calls k2 gb452 a0_0 a0_1 A0_2 c0_2 l0_2 ((rd_T39 l1 x17_2).f0) ((rd_T39 l1 x17_2).f1) ((rd_T39 l1 x17_2).f2) true _ ?side1 ?side2 ?side3 A15.out).mono ?_
    (case side1 => exact BK452.out)
    (case side2 => exact Xc HR0_2)
    (case side3 => exact HC0_2.out)
    rintro e w28 ⟨rfl, hb⟩
    refine ⟨_, rfl, ?_⟩
    replace BK452 := Xbb BK452 hb
    replace BK455 := Xbb BK455 hb
    replace HB := Aside0.mk (below_step Xi hb)
    try clear hb
    try clear hb2
    try clear hk
    try clear hi
    refine hK.out _ _ ⟨(blk_cell BK455.out 0).trans rfl, (blk_cell BK455.out 1).trans rfl, (blk_cell BK455.out 2).trans rfl, Xn hw457_0, Xn hw457_1, Xn hw457_2⟩ (fun hHeld => ?_)
    clear hK K
    refine Xno ?_
    refine Xpu 2 24 (XW.bs 17 7) HT_.out ?_
    refine Xpu 3 25 (XW.bs 17 15) HT_.out ?_
    refine Xpu 4 26 (XW.bs 17 31) HT_.out ?_
    refine Xpu 5 27 (XW.bs 17 63) HT_.out ?_
    refine Xpu 6 28 (XW.bs 17 127) HT_.out ?_
    refine Xpu 7 29 (XW.bs 17 255) HT_.out ?_
    refine Xpu 8 30 (XW.bs 17 511) HT_.out ?_
    refine Xpu 9 31 (XW.bs 17 1023) HT_.out ?_
    refine Xpu 10 32 (XW.bs 17 2047) HT_.out ?_
    refine Xta 11 33 (XW.bs 17 4095) HT_.out HW_.out hHeld ?_
    refine Xta 12 34 (XW.bs 17 8191) HT_.out HW_.out hHeld ?_
    refine one_ (i := 13) (N := some 35) (XW.bs 17 16383) rfl rfl (one_of HT_.out (by kernel_rfl)) (by decide) (fun K hK => ?_)
    refine goes_ Tryz.func70 (by kernel_rfl) rfl #[.agg #[.int .i64 ((rd_T39 l1 (ji18)).f0), .int .i64 ((rd_T39 l1 (ji18)).f1), .int .i64 ((rd_T39 l1 (ji18)).f2)], .agg #[.int .i64 ((rd_T39 l1 x17_2).f0), .int .i64 ((rd_T39 l1 x17_2).f1), .int .i64 ((rd_T39 l1 x17_2).f2)]] (by rfl) rfl rfl (by (try simp only [List.map_toArray, List.map_cons, List.map_nil]); first | done | (simp only [hji18]; rfl) | rfl | (simp only [List.length_drop, List.length_take]; rfl)) ?_
    with_reducible refine (impl_compareHolds.calls k2 ((rd_T39 l1 (ji18)).f0) ((rd_T39 l1 (ji18)).f1) ((rd_T39 l1 (ji18)).f2) ((rd_T39 l1 x17_2).f0) ((rd_T39 l1 x17_2).f1) ((rd_T39 l1 x17_2).f2) t458 _ A21.out).mono ?_
    rintro e w29 ⟨rfl, hb⟩
    refine ⟨_, rfl, ?_⟩
    replace BK452 := Xbb BK452 hb
    replace BK455 := Xbb BK455 hb
    replace HB := Aside0.mk (below_step Xi hb)
    try clear hb
    try clear hb2
    try clear hk
    try clear hi
    refine hK.out _ _ ⟨(blk_cell BK455.out 0).trans rfl, (blk_cell BK455.out 1).trans rfl, (blk_cell BK455.out 2).trans rfl, Xn hw457_0, Xn hw457_1, Xn hw457_2⟩ (fun hHeld => ?_)
    clear hK K
    refine Xno ?_
    refine Xpu 14 36 (XW.bs 17 32767) HT_.out ?_
    refine Xpu 15 37 (XW.bs 17 65535) HT_.out ?_
    refine Xpu 16 38 (XW.bs 17 131071) HT_.out ?_
    refine done_ (done_of HT_.out (by kernel_rfl)) ?_
    go_upto_if 38 with (fail)
    have H := HC22.out
    clear HC22
    obtain ⟨c30, H⟩ | ⟨c30, H⟩ := Xiu H
    ·have c30b0 : decide (0 ≤ t458) = true := decide_eq_true c30
     clear c30
     (first | rw [c30b0] | (simp only [i64_w, i32_w]; rw [c30b0]) | skip)
     obtain rfl := Option.some.inj H
     go_wp2
     go_ret
     exact ⟨by first | rfl | (simp [errW_none, errW_some] <;> rfl) | (simp only [← hji18]; first | rfl | (simp [errW_none, errW_some] <;> rfl)) | (simp [*, errW_none, errW_some] <;> rfl), Xi⟩
    have c30b0 : decide (0 ≤ t458) = false := decide_eq_false c30
    clear c30
    (first | rw [c30b0] | (simp only [i64_w, i32_w]; rw [c30b0]) | skip)
    have H' := Aside0.mk H
    clear H
    go_wp2
    go_roundg k2
    case measure => have := HJ2.out; have := HK2.out; omega
    case rel => exact ⟨(wrap64 (x17_2 + 1)), Xr, H', ⟨by have := HJ2.out; have := HK2.out; omega⟩, BK452, ⟨Xi⟩⟩
   have c17b0 : decide (0 < x17_2) = false := decide_eq_false c17
   clear c17
   have H' := Aside0.mk H
   clear H
   obtain ⟨ad454, e454, p454, q454, hx454_0, hx454_1, hx454_2⟩ := at_B39 HR1 x17_2 Xa Xa HB
   cases e454
   try go_wp2_with (first | ((with_reducible refine gate_dst (N := 6) rfl ?_); (try (refine gate_guard (by rfl) ?_; dsimp only)); refine Xbox 6 #[.int .i64 0, .int .i64 0, .int .i64 0] 39 ?_; intro gb455 hg w31 hbox hb; have BK455 := Aside0.mk (hbox); have GE455 := Xge hg Xi; have GW455 := GE455; replace HB := Aside0.mk (below_step Xi hb); have NB452_455 := Xnb hg BK452; have NB455_452 := Xns NB452_455; replace BK452 := Xbb BK452 hb; clear hb hbox hg; have hnb32 := NB455_452.out; have hnc32 := NB452_455.out; obtain ⟨hcz33_0, hcz33_1, hcz33_2⟩ := Xc3 BK455; obtain ⟨hfz33_0, hfz33_1, hfz33_2⟩ := Xf3 BK455) | ((with_reducible refine gate_store (t := 39) (p := 6) rfl ?_); refine store_event (t := 39) (p := 6) (v := ?vo_w34) (w1 := (((w31.setCell ⟨gb455, 0, none⟩ (.int .i64 ((rd_T39 l1 x17_2).f0))).setCell ⟨gb455, 1, none⟩ (.int .i64 ((rd_T39 l1 x17_2).f1))).setCell ⟨gb455, 2, none⟩ (.int .i64 ((rd_T39 l1 x17_2).f2)))) ?hg ?ho ?hn ?hr ?_; (case ho => rfl); (case hg => rfl); (case hn => rfl); (case hr => first | (go_simp; done) | (go_simp; rfl)); intro w34 hw; have n0_ : Aside0 (w34.heap[gb452]? = some (.cells #[.int .i64 a0_0, .int .i64 a0_1, .slice A0_2 l0_2.length c0_2] 35 (0, 0))) := ⟨(by rw [hw]; exact (by (with_reducible repeat (first | refine blk_drewN ?_ _ | refine blk_drew ?_ | refine blk_alloc ?_ _)); refine blk_far ?_ NB452_455.out _; (with_reducible repeat (first | refine blk_drewN ?_ _ | refine blk_drew ?_ | refine blk_alloc ?_ _)); refine blk_far ?_ NB452_455.out _; (with_reducible repeat (first | refine blk_drewN ?_ _ | refine blk_drew ?_ | refine blk_alloc ?_ _)); refine blk_far ?_ NB452_455.out _; (with_reducible repeat (first | refine blk_drewN ?_ _ | refine blk_drew ?_ | refine blk_alloc ?_ _)); exact BK452.out))⟩; have n1_ : Aside0 (w34.heap[gb455]? = some (.cells #[.int .i64 ((rd_T39 l1 x17_2).f0), .int .i64 ((rd_T39 l1 x17_2).f1), .int .i64 ((rd_T39 l1 x17_2).f2)] 39 (0, 0))) := ⟨(by rw [hw]; exact (by (with_reducible repeat (first | refine blk_drewN ?_ _ | refine blk_drew ?_ | refine blk_alloc ?_ _)); refine blk_put (cs := #[.int .i64 ((rd_T39 l1 x17_2).f0), .int .i64 ((rd_T39 l1 x17_2).f1), .int .i64 0]) ?_ 2 _ rfl; (with_reducible repeat (first | refine blk_drewN ?_ _ | refine blk_drew ?_ | refine blk_alloc ?_ _)); refine blk_put (cs := #[.int .i64 ((rd_T39 l1 x17_2).f0), .int .i64 0, .int .i64 0]) ?_ 1 _ rfl; (with_reducible repeat (first | refine blk_drewN ?_ _ | refine blk_drew ?_ | refine blk_alloc ?_ _)); refine blk_put (cs := #[.int .i64 0, .int .i64 0, .int .i64 0]) ?_ 0 _ rfl; (with_reducible repeat (first | refine blk_drewN ?_ _ | refine blk_drew ?_ | refine blk_alloc ?_ _)); exact BK455.out))⟩; have n2_ : Aside0 (Below w.heap.size w w34) := ⟨(by rw [hw]; exact Xi)⟩; clear hw; clear BK452; clear BK455; clear HB; have BK452 := n0_; have BK455 := n1_; have HB := n2_; clear n0_ n1_ n2_))
   replace BK452 := Aside0.mk (blk_drew BK452.out)
   replace BK455 := Aside0.mk (blk_drew BK455.out)
   replace HB := Aside0.mk (below_drew1 HB.out)
   refine start_ (n := 17) (S := fun w' => w'.cell? ⟨gb455, 0, none⟩ = some (.int .i64 ((rd_T39 l1 x17_2).f0)) ∧ w'.cell? ⟨gb455, 1, none⟩ = some (.int .i64 ((rd_T39 l1 x17_2).f1)) ∧ w'.cell? ⟨gb455, 2, none⟩ = some (.int .i64 ((rd_T39 l1 x17_2).f2))) (ds := []) #[false, false, false, false, false, false, false, false, false, false, false, false, false, false, false, false, false] (by kernel_rfl) rfl rfl ⟨(blk_cell BK455.out 0).trans rfl, (blk_cell BK455.out 1).trans rfl, (blk_cell BK455.out 2).trans rfl⟩ (fun hHeld => ?_); refine with_tabW impl_HoldsOK.tab6 impl_HoldsOK.bits6 (fun HT_ HW_ => ?_)
   generalize w34.drew = w35 at BK452 BK455 HB hHeld ⊢
   refine Xta 0 22 (XW.bs 17 1) HT_.out HW_.out hHeld ?_
   refine one_ (i := 1) (N := some 23) (XW.bs 17 3) rfl rfl (one_of HT_.out (by kernel_rfl)) (by decide) (fun K hK => ?_)
   refine goes_ Tryz.func69 (by kernel_rfl) rfl #[.pointer (some ⟨gb452, 0, none⟩), .agg #[.int .i64 ((rd_T39 l1 x17_2).f0), .int .i64 ((rd_T39 l1 x17_2).f1), .int .i64 ((rd_T39 l1 x17_2).f2)]] (by rfl) rfl rfl (by (try simp only [List.map_toArray, List.map_cons, List.map_nil]); first | done | rfl | (simp only [List.length_drop, List.length_take]; rfl)) ?_
   with_reducible refine (impl_Doc_isHold.calls k2 gb452 a0_0 a0_1 A0_2 c0_2 l0_2 ((rd_T39 l1 x17_2).f0) ((rd_T39 l1 x17_2).f1) ((rd_T39 l1 x17_2).f2) true _ ?side1 ?side2 ?side3 A15.out).mono ?_
   (case side1 => exact BK452.out)
   (case side2 => exact Xc HR0_2)
   (case side3 => exact HC0_2.out)
   rintro e w36 ⟨rfl, hb⟩
   refine ⟨_, rfl, ?_⟩
   replace BK452 := Xbb BK452 hb
   replace BK455 := Xbb BK455 hb
   replace HB := Aside0.mk (below_step Xi hb)
   try clear hb
   try clear hb2
   try clear hk
   try clear hi
   refine hK.out _ _ ⟨(blk_cell BK455.out 0).trans rfl, (blk_cell BK455.out 1).trans rfl, (blk_cell BK455.out 2).trans rfl⟩ (fun hHeld => ?_)
   clear hK K
   refine Xno ?_
   refine Xpu 2 24 (XW.bs 17 7) HT_.out ?_
   refine Xpu 3 25 (XW.bs 17 15) HT_.out ?_
   refine Xpu 4 26 (XW.bs 17 31) HT_.out ?_
   refine Xpu 5 27 (XW.bs 17 63) HT_.out ?_
   refine Xpu 6 28 (XW.bs 17 127) HT_.out ?_
   refine Xpn 7 29 (XW.bs 17 255) HT_.out ?_
   refine Xpn 8 30 (XW.bs 17 511) HT_.out ?_
   refine Xpn 9 31 (XW.bs 17 1023) HT_.out ?_
   refine Xpn 10 32 (XW.bs 17 2047) HT_.out ?_
   refine Xpn 11 33 (XW.bs 17 4095) HT_.out ?_
   refine Xpn 12 34 (XW.bs 17 8191) HT_.out ?_
   refine Xpn 13 35 (XW.bs 17 16383) HT_.out ?_
   refine Xpn 14 36 (XW.bs 17 32767) HT_.out ?_
   refine Xpu 15 37 (XW.bs 17 65535) HT_.out ?_
   refine Xpu 16 38 (XW.bs 17 131071) HT_.out ?_
   refine done_ (done_of HT_.out (by kernel_rfl)) ?_
   try go_wp2_with (fail)
   go_roundg k2
   case measure => have := HJ2.out; have := HK2.out; omega
   case rel => exact ⟨(wrap64 (x17_2 + 1)), Xr, H', ⟨by have := HJ2.out; have := HK2.out; omega⟩, BK452, ⟨Xi⟩⟩
  replace c16 := Bool.eq_false_iff.mpr c16
  subst c16
  try rw [if_neg (show ¬ (false = true) by decide)] at H
  obtain rfl := Option.some.inj H
  obtain ⟨ad454, e454, p454, q454, hx454_0, hx454_1, hx454_2⟩ := at_B39 HR1 x17_2 Xa Xa HB
  cases e454
  try go_wp2_with (first | ((with_reducible refine gate_dst (N := 6) rfl ?_); (try (refine gate_guard (by rfl) ?_; dsimp only)); refine Xbox 6 #[.int .i64 0, .int .i64 0, .int .i64 0] 39 ?_; intro gb455 hg w37 hbox hb; have BK455 := Aside0.mk (hbox); have GE455 := Xge hg Xi; have GW455 := GE455; replace HB := Aside0.mk (below_step Xi hb); have NB452_455 := Xnb hg BK452; have NB455_452 := Xns NB452_455; replace BK452 := Xbb BK452 hb; clear hb hbox hg; have hnb38 := NB455_452.out; have hnc38 := NB452_455.out; obtain ⟨hcz39_0, hcz39_1, hcz39_2⟩ := Xc3 BK455; obtain ⟨hfz39_0, hfz39_1, hfz39_2⟩ := Xf3 BK455) | ((with_reducible refine gate_store (t := 39) (p := 6) rfl ?_); refine store_event (t := 39) (p := 6) (v := ?vo_w40) (w1 := (((w37.setCell ⟨gb455, 0, none⟩ (.int .i64 ((rd_T39 l1 x17_2).f0))).setCell ⟨gb455, 1, none⟩ (.int .i64 ((rd_T39 l1 x17_2).f1))).setCell ⟨gb455, 2, none⟩ (.int .i64 ((rd_T39 l1 x17_2).f2)))) ?hg ?ho ?hn ?hr ?_; (case ho => rfl); (case hg => rfl); (case hn => rfl); (case hr => first | (go_simp; done) | (go_simp; rfl)); intro w40 hw; have n0_ : Aside0 (w40.heap[gb452]? = some (.cells #[.int .i64 a0_0, .int .i64 a0_1, .slice A0_2 l0_2.length c0_2] 35 (0, 0))) := ⟨(by rw [hw]; exact (by (with_reducible repeat (first | refine blk_drewN ?_ _ | refine blk_drew ?_ | refine blk_alloc ?_ _)); refine blk_far ?_ NB452_455.out _; (with_reducible repeat (first | refine blk_drewN ?_ _ | refine blk_drew ?_ | refine blk_alloc ?_ _)); refine blk_far ?_ NB452_455.out _; (with_reducible repeat (first | refine blk_drewN ?_ _ | refine blk_drew ?_ | refine blk_alloc ?_ _)); refine blk_far ?_ NB452_455.out _; (with_reducible repeat (first | refine blk_drewN ?_ _ | refine blk_drew ?_ | refine blk_alloc ?_ _)); exact BK452.out))⟩; have n1_ : Aside0 (w40.heap[gb455]? = some (.cells #[.int .i64 ((rd_T39 l1 x17_2).f0), .int .i64 ((rd_T39 l1 x17_2).f1), .int .i64 ((rd_T39 l1 x17_2).f2)] 39 (0, 0))) := ⟨(by rw [hw]; exact (by (with_reducible repeat (first | refine blk_drewN ?_ _ | refine blk_drew ?_ | refine blk_alloc ?_ _)); refine blk_put (cs := #[.int .i64 ((rd_T39 l1 x17_2).f0), .int .i64 ((rd_T39 l1 x17_2).f1), .int .i64 0]) ?_ 2 _ rfl; (with_reducible repeat (first | refine blk_drewN ?_ _ | refine blk_drew ?_ | refine blk_alloc ?_ _)); refine blk_put (cs := #[.int .i64 ((rd_T39 l1 x17_2).f0), .int .i64 0, .int .i64 0]) ?_ 1 _ rfl; (with_reducible repeat (first | refine blk_drewN ?_ _ | refine blk_drew ?_ | refine blk_alloc ?_ _)); refine blk_put (cs := #[.int .i64 0, .int .i64 0, .int .i64 0]) ?_ 0 _ rfl; (with_reducible repeat (first | refine blk_drewN ?_ _ | refine blk_drew ?_ | refine blk_alloc ?_ _)); exact BK455.out))⟩; have n2_ : Aside0 (Below w.heap.size w w40) := ⟨(by rw [hw]; exact Xi)⟩; clear hw; clear BK452; clear BK455; clear HB; have BK452 := n0_; have BK455 := n1_; have HB := n2_; clear n0_ n1_ n2_))
  replace BK452 := Aside0.mk (blk_drew BK452.out)
  replace BK455 := Aside0.mk (blk_drew BK455.out)
  replace HB := Aside0.mk (below_drew1 HB.out)
  refine start_ (n := 17) (S := fun w' => w'.cell? ⟨gb455, 0, none⟩ = some (.int .i64 ((rd_T39 l1 x17_2).f0)) ∧ w'.cell? ⟨gb455, 1, none⟩ = some (.int .i64 ((rd_T39 l1 x17_2).f1)) ∧ w'.cell? ⟨gb455, 2, none⟩ = some (.int .i64 ((rd_T39 l1 x17_2).f2))) (ds := []) #[false, false, false, false, false, false, false, false, false, false, false, false, false, false, false, false, false] (by kernel_rfl) rfl rfl ⟨(blk_cell BK455.out 0).trans rfl, (blk_cell BK455.out 1).trans rfl, (blk_cell BK455.out 2).trans rfl⟩ (fun hHeld => ?_); refine with_tabW impl_HoldsOK.tab6 impl_HoldsOK.bits6 (fun HT_ HW_ => ?_)
  generalize w40.drew = w41 at BK452 BK455 HB hHeld ⊢
  refine Xta 0 22 (XW.bs 17 1) HT_.out HW_.out hHeld ?_
  refine one_ (i := 1) (N := some 23) (XW.bs 17 3) rfl rfl (one_of HT_.out (by kernel_rfl)) (by decide) (fun K hK => ?_)
  refine goes_ Tryz.func69 (by kernel_rfl) rfl #[.pointer (some ⟨gb452, 0, none⟩), .agg #[.int .i64 ((rd_T39 l1 x17_2).f0), .int .i64 ((rd_T39 l1 x17_2).f1), .int .i64 ((rd_T39 l1 x17_2).f2)]] (by rfl) rfl rfl (by (try simp only [List.map_toArray, List.map_cons, List.map_nil]); first | done | rfl | (simp only [List.length_drop, List.length_take]; rfl)) ?_
  with_reducible refine (impl_Doc_isHold.calls k2 gb452 a0_0 a0_1 A0_2 c0_2 l0_2 ((rd_T39 l1 x17_2).f0) ((rd_T39 l1 x17_2).f1) ((rd_T39 l1 x17_2).f2) false _ ?side1 ?side2 ?side3 A15.out).mono ?_
  (case side1 => exact BK452.out)
  (case side2 => exact Xc HR0_2)
  (case side3 => exact HC0_2.out)
  rintro e w42 ⟨rfl, hb⟩
  refine ⟨_, rfl, ?_⟩
  replace BK452 := Xbb BK452 hb
  replace BK455 := Xbb BK455 hb
  replace HB := Aside0.mk (below_step Xi hb)
  try clear hb
  try clear hb2
  try clear hk
  try clear hi
  refine hK.out _ _ ⟨(blk_cell BK455.out 0).trans rfl, (blk_cell BK455.out 1).trans rfl, (blk_cell BK455.out 2).trans rfl⟩ (fun hHeld => ?_)
  clear hK K
  refine Xno ?_
  refine Xpu 2 24 (XW.bs 17 7) HT_.out ?_
  refine Xpu 3 25 (XW.bs 17 15) HT_.out ?_
  refine Xpn 4 26 (XW.bs 17 31) HT_.out ?_
  refine Xpn 5 27 (XW.bs 17 63) HT_.out ?_
  refine Xpn 6 28 (XW.bs 17 127) HT_.out ?_
  refine Xpn 7 29 (XW.bs 17 255) HT_.out ?_
  refine Xpn 8 30 (XW.bs 17 511) HT_.out ?_
  refine Xpn 9 31 (XW.bs 17 1023) HT_.out ?_
  refine Xpn 10 32 (XW.bs 17 2047) HT_.out ?_
  refine Xpn 11 33 (XW.bs 17 4095) HT_.out ?_
  refine Xpn 12 34 (XW.bs 17 8191) HT_.out ?_
  refine Xpn 13 35 (XW.bs 17 16383) HT_.out ?_
  refine Xpn 14 36 (XW.bs 17 32767) HT_.out ?_
  refine Xpn 15 37 (XW.bs 17 65535) HT_.out ?_
  refine Xpu 16 38 (XW.bs 17 131071) HT_.out ?_
  refine done_ (done_of HT_.out (by kernel_rfl)) ?_
  try go_wp2_with (fail)
  go_ret
  exact ⟨Xe, Xi⟩
 obtain rfl := Option.some.inj H
 go_wp2
 go_ret
 exact ⟨Xe, Xi⟩
def impl_Table_waiting_1.f (a0_0 : Int) (a0_1 : Int) (a0_2 : Int) (a1_0 : Int) : Option (Bool) := some (a0_0 == a1_0)
theorem impl_Table_waiting_1.calls (a0_0 : Int) (a0_1 : Int) (a0_2 : Int) (g1_ : Nat) (a1_0 : Int) (r : Bool) (w : World) (hg1_ : w.heap[g1_]? = some (.cells #[.int .i64 a1_0] 3 (0, 0))) (h : impl_Table_waiting_1.f a0_0 a0_1 a0_2 a1_0 = some r) :
  Calls Tryz.prog 109 #[.agg #[.int .i64 a0_0, .int .i64 a0_1, .int .i64 a0_2], .pointer (some ⟨g1_, 0, none⟩)] w fun e w' => e = .returned (.bool r) ∧ Below w.heap.size w w' := by
 have hu39 := Tryz.underlying39
 have BK1 := Aside0.mk hg1_
 clear hg1_
 have HB := Aside0.mk (Below.refl w.heap.size w)
 have H : (some (a0_0 == a1_0)) = some r := h
 clear h
 obtain rfl := Option.some.inj H
 go_enter Tryz.func109, Tryz.ntmps109
 go_wp2_with (first | ((with_reducible refine gate_dst (N := 2) rfl ?_); refine Xbox 2 #[.int .i64 a0_0, .int .i64 a0_1, .int .i64 a0_2] 39 ?_; intro gb461 hg w3 hbox hb; have BK461 := Aside0.mk (hbox); have GE461 := Xge hg Xi; replace HB := Aside0.mk (below_step Xi hb); have NB1_461 := Xnb hg BK1; have NB461_1 := Xns NB1_461; replace BK1 := Xbb BK1 hb; clear hb hbox hg; have hnb4 := NB461_1.out; have hnc4 := NB1_461.out; obtain ⟨hcz5_0, hcz5_1, hcz5_2⟩ := Xc3 BK461; have hcz6_0 := (blk_cell BK1.out 0).trans XW.i0))
 go_ret
 exact ⟨Xe, Xi⟩
end Go.Proofs.YtahhgjkgfbppeaaGreat.XA
