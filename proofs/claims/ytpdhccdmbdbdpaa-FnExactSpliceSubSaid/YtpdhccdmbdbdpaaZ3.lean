/- Words and contracts of this claim, put together out of several texts by a program of this session's. Conditions: each theorem's own premises. -/
import Derived.Test.YtpdhccdmbdbdpaaZ1
import Derived.Test.YtpdhccdmbdbdpaaZ2
namespace Go.Proofs.Ytpdhccdmbdbdpaa.XA
open Go.RowKit Go.Proofs.YtpdhccdmbdbdpaaW.PrintWords Go.Proofs.YtpdhccdmbdbdpaaW.PrintLast Go.Proofs.YtpdhccdmbdbdpaaW.PrintMore XW
attribute [local go_sem] max2_int min2_int max_two min_two max_three min_three max_four min_four   -- for this text's walks alone
set_option linter.unusedVariables false
set_option linter.unusedSimpArgs false
set_option maxHeartbeats 8000000
set_option maxRecDepth 100000
def spec_SpliceSub.j0 : Nat → Bool → Int → Int → List (S43) → Int → Int → List (S43) → Option (Int × Int × (List (S43)) × Int)
 | 0, _, _, _, _, _, _, _ => none
 | k + 1, x14, x315000, x315001, x315002, x316000, x316001, x316002 => if x14 = true then (some (0, 0, ([] : List (S43)), 1)) else ((spec_l02At.f k x315000 x315001 x315002 x316000).bind fun t10 => (if t10 < 0 then (some (0, 0, ([] : List (S43)), 5)) else (if (wrap64 (x315001 + (x316002.length : Int))) > 999999 then (some (0, 0, ([] : List (S43)), 4)) else ((spec_l02Splice.f k x315000 x315001 x315002 x316000 x316001 x316002).bind fun bt320 => (if (bt320.2.2.length : Int) > 40 then (some (0, 0, ([] : List (S43)), 7)) else ((spec_l02Deep.f k bt320.1 bt320.2.1 bt320.2.2 bt320.1 6).bind fun t11 => (if t11 > 6 then (some (0, 0, ([] : List (S43)), 11)) else (some (bt320.1, bt320.2.1, bt320.2.2, 0)))))))))
def spec_SpliceSub.f (k : Nat) (a0_0 : Int) (a0_1 : Int) (l0_2 : List (S43)) (a1_0 : Int) (a1_1 : Int) (l1_2 : List (S43)) : Option (Int × Int × (List (S43)) × Int) := (spec_l02OK.f k a0_0 a0_1 l0_2).bind fun t10 => (if t10 = true then ((spec_l02OK.f k a1_0 a1_1 l1_2).bind fun t11 => (spec_SpliceSub.j0 k (!t11) a0_0 a0_1 l0_2 a1_0 a1_1 l1_2)) else (spec_SpliceSub.j0 k true a0_0 a0_1 l0_2 a1_0 a1_1 l1_2))
theorem spec_SpliceSub.calls (k : Nat) (a0_0 : Int) (a0_1 : Int) (A0_2 : Option Addr) (c0_2 : Nat) (l0_2 : List (S43)) (a1_0 : Int) (a1_1 : Int) (A1_2 : Option Addr) (c1_2 : Nat) (l1_2 : List (S43)) (r1 : Int) (r2 : Int) (r3 : List (S43)) (r4 : Int) (w : World) (hr0_2 : Kd.C k43 w A0_2 l0_2.length l0_2) (hc0_2 : l0_2.length ≤ c0_2) (hr1_2 : Kd.C k43 w A1_2 l1_2.length l1_2) (hc1_2 : l1_2.length ≤ c1_2) (h : spec_SpliceSub.f k a0_0 a0_1 l0_2 a1_0 a1_1 l1_2 = some (r1, r2, r3, r4)) :
  Calls Try.prog 48 #[.agg #[.int .i64 a0_0, .int .i64 a0_1, .slice A0_2 l0_2.length c0_2], .agg #[.int .i64 a1_0, .int .i64 a1_1, .slice A1_2 l1_2.length c1_2]] w fun e w' => ∃ v2_ : Value, e = .returned (.tuple #[.agg #[.int .i64 r1, .int .i64 r2, v2_], .int .i64 r4]) ∧ Kd.N k43 43 w' w.heap.size (fun k_ => (w.heap.size ≤ k_)) v2_ r3 ∧ Below w.heap.size w w' := by
 have hu29 := Try.underlying29
 have HR0_2 := Am hr0_2
 have HC0_2 := Am hc0_2
 clear hr0_2 hc0_2
 have HR1_2 := Am hr1_2
 have HC1_2 := Am hc1_2
 clear hr1_2 hc1_2
 have HB := Am (Below.refl w.heap.size w)
 have H : ((spec_l02OK.f k a0_0 a0_1 l0_2).bind fun t90 => (if t90 = true then ((spec_l02OK.f k a1_0 a1_1 l1_2).bind fun t91 => (spec_SpliceSub.j0 k (!t91) a0_0 a0_1 l0_2 a1_0 a1_1 l1_2)) else (spec_SpliceSub.j0 k true a0_0 a0_1 l0_2 a1_0 a1_1 l1_2))) = some (r1, r2, r3, r4) := h
 clear h
 have HC3 := Am H
 clear H
 go_enter Try.func48, Try.ntmps48
 go_upto_region 1 with (first | ((with_reducible refine gate_dst (N := 2) rfl ?_); refine Xbx 2 #[.int .i64 a0_0, .int .i64 a0_1, .slice A0_2 l0_2.length c0_2] 29 ?_; intro gb92 hg w4 B92 GE92 hb; replace HB := Xhb hb; clear hb hg) | ((with_reducible refine gate_dst (N := 3) rfl ?_); refine Xbx 3 #[.int .i64 a1_0, .int .i64 a1_1, .slice A1_2 l1_2.length c1_2] 29 ?_; intro gb93 hg w5 B93 GE93 hb; replace HB := Xhb hb; have NB92_93 := Xnb hg B92; have NB93_92 := Xns NB92_93; replace B92 := Xbb B92 hb; clear hb hg) | ((with_reducible refine gate_dst (N := 4) rfl ?_); refine Xbx 4 #[.int .i64 0, .int .i64 0, .slice none 0 0] 29 ?_; intro gb94 hg w6 B94 GE94 hb; replace HB := Xhb hb; have NB92_94 := Xnb hg B92; have NB94_92 := Xns NB92_94; replace B92 := Xbb B92 hb; have NB93_94 := Xnb hg B93; have NB94_93 := Xns NB93_94; replace B93 := Xbb B93 hb; clear hb hg))
 (try simp only [XW.q0, XW.q1, XW.q2])
 go_cut [14] (fun v14 wc => ∃ (kq : Nat) (x14_2 : Bool), v14 = .bool x14_2 ∧ Aside0 (spec_SpliceSub.j0 kq x14_2 a0_0 a0_1 l0_2 a1_0 a1_1 l1_2 = some (r1, r2, r3, r4)) ∧ Aside0 (kq ≤ k) ∧ Aside0 (wc.heap[gb92]? = some (.cells #[.int .i64 a0_0, .int .i64 a0_1, (.slice A0_2 l0_2.length c0_2)] 29 (0, 0))) ∧ Aside0 (wc.heap[gb93]? = some (.cells #[.int .i64 a1_0, .int .i64 a1_1, (.slice A1_2 l1_2.length c1_2)] 29 (0, 0))) ∧ Aside0 (wc.heap[gb94]? = some (.cells #[.int .i64 0, .int .i64 0, (.slice none 0 0)] 29 (0, 0))) ∧ Aside0 (Below w.heap.size w wc))
 case first =>
  have H := HC3.out
  clear HC3
  obtain ⟨t90, A7, H⟩ := Xbi H
  try dsimp only at H
  by_cases c8 : t90 = true
  ·subst c8
   try rw [if_pos rfl] at H
   obtain ⟨t91, A9, H⟩ := Xbi H
   try dsimp only at H
   have H' := Am H
   clear H
   have hnb10 := NB92_93.out
   have hnc10 := NB93_92.out
   have hnb11 := NB92_94.out
   have hnc11 := NB94_92.out
   obtain ⟨Z12_0, Z12_1, Z12_2⟩ := Xc3 B92
   obtain ⟨F12_0, F12_1, F12_2⟩ := Xf3 B92
   go_wp2_with (first | ((with_reducible refine gate_callee (f := 51) rfl ?_); refine Xgo 8 Try.func51 #[.agg #[.int .i64 a0_0, .int .i64 a0_1, .slice A0_2 l0_2.length c0_2]] ?_; (with_reducible refine (spec_l02OK.calls k a0_0 a0_1 _ _ l0_2 true _ ?s1 ?s2 A7.out).mono ?_); (case s1 => exact Xc HR0_2); (case s2 => exact HC0_2.out); rintro e w13 ⟨rfl, hb⟩; refine ⟨_, rfl, ?_⟩; replace B92 := Xbb B92 hb; replace B93 := Xbb B93 hb; replace B94 := Xbb B94 hb; replace HB := Xhb hb; clear hb; have hnb14 := NB93_94.out; have hnc14 := NB94_93.out; obtain ⟨Z15_0, Z15_1, Z15_2⟩ := Xc3 B93; obtain ⟨F15_0, F15_1, F15_2⟩ := Xf3 B93) | (go_at_call 51; (with_reducible refine (spec_l02OK.calls k a1_0 a1_1 _ _ l1_2 t91 _ ?s1 ?s2 A9.out).mono ?_); (case s1 => exact Xc HR1_2); (case s2 => exact HC1_2.out); rintro e w16 ⟨rfl, hb⟩; replace B92 := Xbb B92 hb; replace B93 := Xbb B93 hb; replace B94 := Xbb B94 hb; replace HB := Xhb hb; clear hb))
   go_meet
   case rel => exact ⟨_, (!t91), Xr, H', Xko, B92, B93, B94, ⟨Xi⟩⟩
  replace c8 := Xbf c8
  subst c8
  try rw [if_neg Xft] at H
  have H' := Am H
  clear H
  have hnb17 := NB92_93.out
  have hnc17 := NB93_92.out
  have hnb18 := NB92_94.out
  have hnc18 := NB94_92.out
  obtain ⟨Z19_0, Z19_1, Z19_2⟩ := Xc3 B92
  obtain ⟨F19_0, F19_1, F19_2⟩ := Xf3 B92
  go_wp2_with (first | ((with_reducible refine gate_callee (f := 51) rfl ?_); refine Xgo 8 Try.func51 #[.agg #[.int .i64 a0_0, .int .i64 a0_1, .slice A0_2 l0_2.length c0_2]] ?_; (with_reducible refine (spec_l02OK.calls k a0_0 a0_1 _ _ l0_2 false _ ?s1 ?s2 A7.out).mono ?_); (case s1 => exact Xc HR0_2); (case s2 => exact HC0_2.out); rintro e w20 ⟨rfl, hb⟩; refine ⟨_, rfl, ?_⟩; replace B92 := Xbb B92 hb; replace B93 := Xbb B93 hb; replace B94 := Xbb B94 hb; replace HB := Xhb hb; clear hb))
  go_meet
  case rel => exact ⟨_, (true), Xr, H', Xko, B92, B93, B94, ⟨Xi⟩⟩
 clear HC3
 obtain ⟨kq, x14_2, rfl, HA, HJ2, B92, B93, B94, HB⟩ := hcut
 cases kq with | zero => cases HA.out | succ kj2 => ?_
 have H := HA.out
 clear HA
 simp only [spec_SpliceSub.j0] at H
 by_cases c21 : x14_2 = true
 ·subst c21
  try rw [if_pos rfl] at H
  simp only [Option.some.injEq, Prod.mk.injEq] at H
  obtain ⟨rfl, rfl, rfl, rfl⟩ := H
  have hnb22 := NB94_92.out
  have hnc22 := NB92_94.out
  have hnb23 := NB94_93.out
  have hnc23 := NB93_94.out
  obtain ⟨Z24_0, Z24_1, Z24_2⟩ := Xc3 B94
  obtain ⟨F24_0, F24_1, F24_2⟩ := Xf3 B94
  go_wp2_with (first | ((with_reducible refine gate_store (t := 29) (p := 4) rfl ?_); refine store_event (t := 29) (p := 4) (v := ?vo_w25) (w1 := (((wc.setCell ⟨gb94, 0, none⟩ (.int .i64 0)).setCell ⟨gb94, 1, none⟩ (.int .i64 0)).setCell ⟨gb94, 2, none⟩ (.slice none 0 0))) ?hg ?ho ?hn ?hr ?_; (case ho => rfl); (case hg => rfl); (case hn => rfl); (case hr => first | (go_simp; done) | (go_simp; rfl)); intro w25 hw; have n0_ : Aside0 (w25.heap[gb92]? = some (.cells #[.int .i64 a0_0, .int .i64 a0_1, .slice A0_2 l0_2.length c0_2] 29 (0, 0))) := ⟨(by rw [hw]; exact (by refine Xu ?_; refine blk_far ?_ NB92_94.out _; refine Xu ?_; refine blk_far ?_ NB92_94.out _; refine Xu ?_; refine blk_far ?_ NB92_94.out _; refine Xu ?_; exact B92.out))⟩; have n1_ : Aside0 (w25.heap[gb93]? = some (.cells #[.int .i64 a1_0, .int .i64 a1_1, .slice A1_2 l1_2.length c1_2] 29 (0, 0))) := ⟨(by rw [hw]; exact (by refine Xu ?_; refine blk_far ?_ NB93_94.out _; refine Xu ?_; refine blk_far ?_ NB93_94.out _; refine Xu ?_; refine blk_far ?_ NB93_94.out _; refine Xu ?_; exact B93.out))⟩; have n2_ : Aside0 (w25.heap[gb94]? = some (.cells #[.int .i64 0, .int .i64 0, .slice none 0 0] 29 (0, 0))) := ⟨(by rw [hw]; exact (by refine Xu ?_; refine blk_put (cs := #[.int .i64 0, .int .i64 0, .slice none 0 0]) ?_ 2 _ rfl; refine Xu ?_; refine blk_put (cs := #[.int .i64 0, .int .i64 0, .slice none 0 0]) ?_ 1 _ rfl; refine Xu ?_; refine blk_put (cs := #[.int .i64 0, .int .i64 0, .slice none 0 0]) ?_ 0 _ rfl; refine Xu ?_; exact B94.out))⟩; have n3_ : Aside0 (Below w.heap.size w w25) := ⟨(by rw [hw]; exact Xi)⟩; clear hw; clear B92; clear B93; clear B94; clear HB; have B92 := n0_; have B93 := n1_; have B94 := n2_; have HB := n3_; clear n0_ n1_ n2_ n3_))
  refine bodyPost_ret (results_ct rfl _ _ gb94 29 #[.int .i64 0, .int .i64 0, .slice none 0 0] (0, 0) _ rfl B94.out Try.underlying29 rfl (by kernel_rfl)) rfl ?_
  exact ⟨_, Xe, by first | exact Kd.S_nil _ _ _ _ _ | exact Kd.N_nil _ _ _ _ _ | exact Kd.V_nil _ _ _ _ _ | exact Kd.Q_nil _ _ _ _ _ | exact Kd.R_nil _ _ _ _ _, Xi⟩
 replace c21 := Xbf c21
 subst c21
 try rw [if_neg Xft] at H
 obtain ⟨t95, A26, H⟩ := Xbi H
 try dsimp only at H
 have HC27 := Am H
 clear H
 have hnb28 := NB92_93.out
 have hnc28 := NB93_92.out
 have hnb29 := NB92_94.out
 have hnc29 := NB94_92.out
 obtain ⟨Z30_0, Z30_1, Z30_2⟩ := Xc3 B92
 obtain ⟨F30_0, F30_1, F30_2⟩ := Xf3 B92
 have hnb31 := NB93_94.out
 have hnc31 := NB94_93.out
 obtain ⟨Z32_0, Z32_1, Z32_2⟩ := Xc3 B93
 obtain ⟨F32_0, F32_1, F32_2⟩ := Xf3 B93
 go_upto_if 20 with ((with_reducible refine gate_callee (f := 74) rfl ?_); refine Xgo 19 Try.func74 #[.agg #[.int .i64 a0_0, .int .i64 a0_1, .slice A0_2 l0_2.length c0_2], .int .i64 a1_0] ?_; (with_reducible refine (spec_l02At.calls kj2 a0_0 a0_1 _ _ l0_2 a1_0 t95 _ ?s1 ?s2 A26.out).mono ?_); (case s1 => exact Xc HR0_2); (case s2 => exact HC0_2.out); rintro e w33 ⟨rfl, hb⟩; refine ⟨_, rfl, ?_⟩; replace B92 := Xbb B92 hb; replace B93 := Xbb B93 hb; replace B94 := Xbb B94 hb; replace HB := Xhb hb; clear hb)
 have H := HC27.out
 clear HC27
 obtain ⟨c34b0, H⟩ | ⟨c34b0, H⟩ := Xit H
 ·(first | rw [c34b0] | (simp only [i64_w, i32_w]; rw [c34b0]) | skip)
  simp only [Option.some.injEq, Prod.mk.injEq] at H
  obtain ⟨rfl, rfl, rfl, rfl⟩ := H
  have hnb35 := NB94_92.out
  have hnc35 := NB92_94.out
  have hnb36 := NB94_93.out
  have hnc36 := NB93_94.out
  obtain ⟨Z37_0, Z37_1, Z37_2⟩ := Xc3 B94
  obtain ⟨F37_0, F37_1, F37_2⟩ := Xf3 B94
  go_wp2_with (first | ((with_reducible refine gate_store (t := 29) (p := 4) rfl ?_); refine store_event (t := 29) (p := 4) (v := ?vo_w38) (w1 := (((w33.setCell ⟨gb94, 0, none⟩ (.int .i64 0)).setCell ⟨gb94, 1, none⟩ (.int .i64 0)).setCell ⟨gb94, 2, none⟩ (.slice none 0 0))) ?hg ?ho ?hn ?hr ?_; (case ho => rfl); (case hg => rfl); (case hn => rfl); (case hr => first | (go_simp; done) | (go_simp; rfl)); intro w38 hw; have n0_ : Aside0 (w38.heap[gb92]? = some (.cells #[.int .i64 a0_0, .int .i64 a0_1, .slice A0_2 l0_2.length c0_2] 29 (0, 0))) := ⟨(by rw [hw]; exact (by refine Xu ?_; refine blk_far ?_ NB92_94.out _; refine Xu ?_; refine blk_far ?_ NB92_94.out _; refine Xu ?_; refine blk_far ?_ NB92_94.out _; refine Xu ?_; exact B92.out))⟩; have n1_ : Aside0 (w38.heap[gb93]? = some (.cells #[.int .i64 a1_0, .int .i64 a1_1, .slice A1_2 l1_2.length c1_2] 29 (0, 0))) := ⟨(by rw [hw]; exact (by refine Xu ?_; refine blk_far ?_ NB93_94.out _; refine Xu ?_; refine blk_far ?_ NB93_94.out _; refine Xu ?_; refine blk_far ?_ NB93_94.out _; refine Xu ?_; exact B93.out))⟩; have n2_ : Aside0 (w38.heap[gb94]? = some (.cells #[.int .i64 0, .int .i64 0, .slice none 0 0] 29 (0, 0))) := ⟨(by rw [hw]; exact (by refine Xu ?_; refine blk_put (cs := #[.int .i64 0, .int .i64 0, .slice none 0 0]) ?_ 2 _ rfl; refine Xu ?_; refine blk_put (cs := #[.int .i64 0, .int .i64 0, .slice none 0 0]) ?_ 1 _ rfl; refine Xu ?_; refine blk_put (cs := #[.int .i64 0, .int .i64 0, .slice none 0 0]) ?_ 0 _ rfl; refine Xu ?_; exact B94.out))⟩; have n3_ : Aside0 (Below w.heap.size w w38) := ⟨(by rw [hw]; exact Xi)⟩; clear hw; clear B92; clear B93; clear B94; clear HB; have B92 := n0_; have B93 := n1_; have B94 := n2_; have HB := n3_; clear n0_ n1_ n2_ n3_))
  refine bodyPost_ret (results_ct rfl _ _ gb94 29 #[.int .i64 0, .int .i64 0, .slice none 0 0] (0, 0) _ rfl B94.out Try.underlying29 rfl (by kernel_rfl)) rfl ?_
  exact ⟨_, Xe, by first | exact Kd.S_nil _ _ _ _ _ | exact Kd.N_nil _ _ _ _ _ | exact Kd.V_nil _ _ _ _ _ | exact Kd.Q_nil _ _ _ _ _ | exact Kd.R_nil _ _ _ _ _, Xi⟩
 (first | rw [c34b0] | (simp only [i64_w, i32_w]; rw [c34b0]) | skip)
 obtain ⟨c39, H⟩ | ⟨c39, H⟩ := Xiu H
 ·have c39b0 : decide (999999 < (wrap64 (a0_1 + (l1_2.length : Int)))) = true := decide_eq_true c39
  clear c39
  simp only [Option.some.injEq, Prod.mk.injEq] at H
  obtain ⟨rfl, rfl, rfl, rfl⟩ := H
  have hnb40 := NB92_93.out
  have hnc40 := NB93_92.out
  have hnb41 := NB92_94.out
  have hnc41 := NB94_92.out
  obtain ⟨Z42_0, Z42_1, Z42_2⟩ := Xc3 B92
  obtain ⟨F42_0, F42_1, F42_2⟩ := Xf3 B92
  have hnb43 := NB93_94.out
  have hnc43 := NB94_93.out
  obtain ⟨Z44_0, Z44_1, Z44_2⟩ := Xc3 B93
  obtain ⟨F44_0, F44_1, F44_2⟩ := Xf3 B93
  obtain ⟨Z45_0, Z45_1, Z45_2⟩ := Xc3 B94
  obtain ⟨F45_0, F45_1, F45_2⟩ := Xf3 B94
  go_wp2_with (first | ((with_reducible refine gate_store (t := 29) (p := 4) rfl ?_); refine store_event (t := 29) (p := 4) (v := ?vo_w46) (w1 := (((w33.setCell ⟨gb94, 0, none⟩ (.int .i64 0)).setCell ⟨gb94, 1, none⟩ (.int .i64 0)).setCell ⟨gb94, 2, none⟩ (.slice none 0 0))) ?hg ?ho ?hn ?hr ?_; (case ho => rfl); (case hg => rfl); (case hn => rfl); (case hr => first | (go_simp; done) | (go_simp; rfl)); intro w46 hw; have n0_ : Aside0 (w46.heap[gb92]? = some (.cells #[.int .i64 a0_0, .int .i64 a0_1, .slice A0_2 l0_2.length c0_2] 29 (0, 0))) := ⟨(by rw [hw]; exact (by refine Xu ?_; refine blk_far ?_ NB92_94.out _; refine Xu ?_; refine blk_far ?_ NB92_94.out _; refine Xu ?_; refine blk_far ?_ NB92_94.out _; refine Xu ?_; exact B92.out))⟩; have n1_ : Aside0 (w46.heap[gb93]? = some (.cells #[.int .i64 a1_0, .int .i64 a1_1, .slice A1_2 l1_2.length c1_2] 29 (0, 0))) := ⟨(by rw [hw]; exact (by refine Xu ?_; refine blk_far ?_ NB93_94.out _; refine Xu ?_; refine blk_far ?_ NB93_94.out _; refine Xu ?_; refine blk_far ?_ NB93_94.out _; refine Xu ?_; exact B93.out))⟩; have n2_ : Aside0 (w46.heap[gb94]? = some (.cells #[.int .i64 0, .int .i64 0, .slice none 0 0] 29 (0, 0))) := ⟨(by rw [hw]; exact (by refine Xu ?_; refine blk_put (cs := #[.int .i64 0, .int .i64 0, .slice none 0 0]) ?_ 2 _ rfl; refine Xu ?_; refine blk_put (cs := #[.int .i64 0, .int .i64 0, .slice none 0 0]) ?_ 1 _ rfl; refine Xu ?_; refine blk_put (cs := #[.int .i64 0, .int .i64 0, .slice none 0 0]) ?_ 0 _ rfl; refine Xu ?_; exact B94.out))⟩; have n3_ : Aside0 (Below w.heap.size w w46) := ⟨(by rw [hw]; exact Xi)⟩; clear hw; clear B92; clear B93; clear B94; clear HB; have B92 := n0_; have B93 := n1_; have B94 := n2_; have HB := n3_; clear n0_ n1_ n2_ n3_))
  refine bodyPost_ret (results_ct rfl _ _ gb94 29 #[.int .i64 0, .int .i64 0, .slice none 0 0] (0, 0) _ rfl B94.out Try.underlying29 rfl (by kernel_rfl)) rfl ?_
  exact ⟨_, Xe, by first | exact Kd.S_nil _ _ _ _ _ | exact Kd.N_nil _ _ _ _ _ | exact Kd.V_nil _ _ _ _ _ | exact Kd.Q_nil _ _ _ _ _ | exact Kd.R_nil _ _ _ _ _, Xi⟩
 have c39b0 : decide (999999 < (wrap64 (a0_1 + (l1_2.length : Int)))) = false := decide_eq_false c39
 clear c39
 replace H := Option.bind_eq_some_iff.mp H
 obtain ⟨⟨t96, t97, t98⟩, A470, H⟩ := H
 try dsimp only at H
 have A47 := Am A470
 clear A470
 have HC48 := Am H
 clear H
 have hnb49 := NB92_93.out
 have hnc49 := NB93_92.out
 have hnb50 := NB92_94.out
 have hnc50 := NB94_92.out
 obtain ⟨Z51_0, Z51_1, Z51_2⟩ := Xc3 B92
 obtain ⟨F51_0, F51_1, F51_2⟩ := Xf3 B92
 have hnb52 := NB93_94.out
 have hnc52 := NB94_93.out
 obtain ⟨Z53_0, Z53_1, Z53_2⟩ := Xc3 B93
 obtain ⟨F53_0, F53_1, F53_2⟩ := Xf3 B93
 go_upto_if 36 with (first | ((with_reducible refine gate_callee (f := 95) rfl ?_); refine Xgo 32 Try.func95 #[.agg #[.int .i64 a0_0, .int .i64 a0_1, .slice A0_2 l0_2.length c0_2], .agg #[.int .i64 a1_0, .int .i64 a1_1, .slice A1_2 l1_2.length c1_2]] ?_; (with_reducible refine (spec_l02Splice.calls kj2 a0_0 a0_1 _ _ l0_2 a1_0 a1_1 _ _ l1_2 t96 t97 t98 _ ?s1 ?s2 ?s3 ?s4 A47.out).mono ?_); (case s1 => exact Xc HR0_2); (case s2 => exact HC0_2.out); (case s3 => exact Xc HR1_2); (case s4 => exact HC1_2.out); rintro e w54 ⟨v323, rfl, ho0, hb⟩; refine ⟨_, rfl, ?_⟩; have HO99 := Am (Kd.N_lower (Kd.N_mono (ok' := fun k_ => (w.heap.size ≤ k_) ∧ k_ ≠ gb92 ∧ k_ ≠ gb93 ∧ k_ ≠ gb94) ho0 (fun k_ hk_ => ⟨(Nat.le_trans (below_size Xi) hk_), (Kd.freshB (g := gb92) (o := .cells #[.int .i64 a0_0, .int .i64 a0_1, .slice A0_2 l0_2.length c0_2] 29 (0, 0)) B92.out k_ hk_), (Kd.freshB (g := gb93) (o := .cells #[.int .i64 a1_0, .int .i64 a1_1, .slice A1_2 l1_2.length c1_2] 29 (0, 0)) B93.out k_ hk_), (Kd.freshB (g := gb94) (o := .cells #[.int .i64 0, .int .i64 0, .slice none 0 0] 29 (0, 0)) B94.out k_ hk_)⟩)) (below_size Xi)); replace B92 := Xbb B92 hb; replace B93 := Xbb B93 hb; replace B94 := Xbb B94 hb; replace HB := Xhb hb; clear hb; (try clear ho0)) | ((with_reducible refine gate_dst (N := 6) rfl ?_); refine Xbox 6 #[.int .i64 0, .int .i64 0, .slice none 0 0] 29 ?_; intro gb325 hg w55 hbox hb; replace HO99 := Am (Kd.N_below (Kd.N_elderB (Xq HO99) gb325 (Nat.le_of_eq hg.symm)) hb); have B325 := Am (hbox); have GE325 := Xge hg Xi; replace HB := Xhb hb; have NB92_325 := Xnb hg B92; have NB325_92 := Xns NB92_325; replace B92 := Xbb B92 hb; have NB93_325 := Xnb hg B93; have NB325_93 := Xns NB93_325; replace B93 := Xbb B93 hb; have NB94_325 := Xnb hg B94; have NB325_94 := Xns NB94_325; replace B94 := Xbb B94 hb; clear hb hbox hg; have hnb56 := NB325_92.out; have hnc56 := NB92_325.out; have hnb57 := NB325_93.out; have hnc57 := NB93_325.out; have hnb58 := NB325_94.out; have hnc58 := NB94_325.out; obtain ⟨Z59_0, Z59_1, Z59_2⟩ := Xc3 B325; obtain ⟨F59_0, F59_1, F59_2⟩ := Xf3 B325; obtain ⟨Ao60, co60, eo60⟩ := Kd.N_slice HO99.out; subst eo60) | ((with_reducible refine gate_store (t := 29) (p := 6) rfl ?_); refine store_event (t := 29) (p := 6) (v := ?vo_w61) (w1 := (((w55.setCell ⟨gb325, 0, none⟩ (.int .i64 t96)).setCell ⟨gb325, 1, none⟩ (.int .i64 t97)).setCell ⟨gb325, 2, none⟩ (.slice Ao60 t98.length co60))) ?hg ?ho ?hn ?hr ?_; (case ho => rfl); (case hg => rfl); (case hn => rfl); (case hr => first | (go_simp; done) | (go_simp; rfl)); intro w61 hw; have n0_ : Aside0 (Kd.N k43 43 w61 w.heap.size (fun k_ => (w.heap.size ≤ k_) ∧ k_ ≠ gb92 ∧ k_ ≠ gb93 ∧ k_ ≠ gb94 ∧ k_ ≠ gb325) (.slice Ao60 t98.length co60) t98) := ⟨(by rw [hw]; exact (by (with_reducible repeat (first | apply Kd.N_alloc | apply Kd.N_drewN | apply Kd.N_drew)); exact Kd.N_mono (Kd.N_far (p := ⟨gb325, 2, none⟩) (Kd.N_far (p := ⟨gb325, 1, none⟩) (Kd.N_far (p := ⟨gb325, 0, none⟩) (Kd.N_mono HO99.out (fun k_ hk => (⟨hk, hk.2⟩ : _ ∧ k_ ≠ gb325))) (fun _ hk => hk.2) (.int .i64 t96)) (fun _ hk => hk.2) (.int .i64 t97)) (fun _ hk => hk.2) (.slice Ao60 t98.length co60)) (fun _ hk => ⟨hk.1.1.1, ⟨hk.1.1.2.1, ⟨hk.1.1.2.2.1, ⟨hk.1.1.2.2.2, hk.1.2⟩⟩⟩⟩)))⟩; have n1_ : Aside0 (w61.heap[gb92]? = some (.cells #[.int .i64 a0_0, .int .i64 a0_1, .slice A0_2 l0_2.length c0_2] 29 (0, 0))) := ⟨(by rw [hw]; exact (by refine Xu ?_; refine blk_far ?_ NB92_325.out _; refine Xu ?_; refine blk_far ?_ NB92_325.out _; refine Xu ?_; refine blk_far ?_ NB92_325.out _; refine Xu ?_; exact B92.out))⟩; have n2_ : Aside0 (w61.heap[gb93]? = some (.cells #[.int .i64 a1_0, .int .i64 a1_1, .slice A1_2 l1_2.length c1_2] 29 (0, 0))) := ⟨(by rw [hw]; exact (by refine Xu ?_; refine blk_far ?_ NB93_325.out _; refine Xu ?_; refine blk_far ?_ NB93_325.out _; refine Xu ?_; refine blk_far ?_ NB93_325.out _; refine Xu ?_; exact B93.out))⟩; have n3_ : Aside0 (w61.heap[gb94]? = some (.cells #[.int .i64 0, .int .i64 0, .slice none 0 0] 29 (0, 0))) := ⟨(by rw [hw]; exact (by refine Xu ?_; refine blk_far ?_ NB94_325.out _; refine Xu ?_; refine blk_far ?_ NB94_325.out _; refine Xu ?_; refine blk_far ?_ NB94_325.out _; refine Xu ?_; exact B94.out))⟩; have n4_ : Aside0 (w61.heap[gb325]? = some (.cells #[.int .i64 t96, .int .i64 t97, .slice Ao60 t98.length co60] 29 (0, 0))) := ⟨(by rw [hw]; exact (by refine Xu ?_; refine blk_put (cs := #[.int .i64 t96, .int .i64 t97, .slice none 0 0]) ?_ 2 _ rfl; refine Xu ?_; refine blk_put (cs := #[.int .i64 t96, .int .i64 0, .slice none 0 0]) ?_ 1 _ rfl; refine Xu ?_; refine blk_put (cs := #[.int .i64 0, .int .i64 0, .slice none 0 0]) ?_ 0 _ rfl; refine Xu ?_; exact B325.out))⟩; have n5_ : Aside0 (Below w.heap.size w w61) := ⟨(by rw [hw]; exact Xi)⟩; clear hw; clear HO99; clear B92; clear B93; clear B94; clear B325; clear HB; have HO99 := n0_; have B92 := n1_; have B93 := n2_; have B94 := n3_; have B325 := n4_; have HB := n5_; clear n0_ n1_ n2_ n3_ n4_ n5_; obtain ⟨Z62_0, Z62_1, Z62_2⟩ := Xc3 B325; obtain ⟨F62_0, F62_1, F62_2⟩ := Xf3 B325))
 have H := HC48.out
 clear HC48
 obtain ⟨c63, H⟩ | ⟨c63, H⟩ := Xiu H
 ·have c63b0 : decide (40 < (t98.length : Int)) = true := decide_eq_true c63
  have c63b1 : decide (40 < t98.length) = true := decide_eq_true (by omega)
  clear c63
  (first | rw [c63b0] | (simp only [i64_w, i32_w]; rw [c63b0]) | skip)
  simp only [Option.some.injEq, Prod.mk.injEq] at H
  obtain ⟨rfl, rfl, rfl, rfl⟩ := H
  have hnb64 := NB94_92.out
  have hnc64 := NB92_94.out
  have hnb65 := NB94_93.out
  have hnc65 := NB93_94.out
  have hnb66 := NB94_325.out
  have hnc66 := NB325_94.out
  obtain ⟨Z67_0, Z67_1, Z67_2⟩ := Xc3 B94
  obtain ⟨F67_0, F67_1, F67_2⟩ := Xf3 B94
  go_wp2_with (first | ((with_reducible refine gate_store (t := 29) (p := 4) rfl ?_); refine store_event (t := 29) (p := 4) (v := ?vo_w68) (w1 := (((w61.setCell ⟨gb94, 0, none⟩ (.int .i64 0)).setCell ⟨gb94, 1, none⟩ (.int .i64 0)).setCell ⟨gb94, 2, none⟩ (.slice none 0 0))) ?hg ?ho ?hn ?hr ?_; (case ho => rfl); (case hg => rfl); (case hn => rfl); (case hr => first | (go_simp; done) | (go_simp; rfl)); intro w68 hw; have n0_ : Aside0 (Kd.N k43 43 w68 w.heap.size (fun k_ => (w.heap.size ≤ k_) ∧ k_ ≠ gb92 ∧ k_ ≠ gb93 ∧ k_ ≠ gb94 ∧ k_ ≠ gb325) (.slice Ao60 t98.length co60) t98) := ⟨(by rw [hw]; exact (by (with_reducible repeat (first | apply Kd.N_alloc | apply Kd.N_drewN | apply Kd.N_drew)); exact Kd.N_mono (Kd.N_far (p := ⟨gb94, 2, none⟩) (Kd.N_far (p := ⟨gb94, 1, none⟩) (Kd.N_far (p := ⟨gb94, 0, none⟩) (Kd.N_mono HO99.out (fun k_ hk => (⟨hk, hk.2.2.2.1⟩ : _ ∧ k_ ≠ gb94))) (fun _ hk => hk.2) (.int .i64 0)) (fun _ hk => hk.2) (.int .i64 0)) (fun _ hk => hk.2) (.slice none 0 0)) (fun _ hk => ⟨hk.1.1, ⟨hk.1.2.1, ⟨hk.1.2.2.1, ⟨hk.1.2.2.2.1, hk.1.2.2.2.2⟩⟩⟩⟩)))⟩; have n1_ : Aside0 (w68.heap[gb92]? = some (.cells #[.int .i64 a0_0, .int .i64 a0_1, .slice A0_2 l0_2.length c0_2] 29 (0, 0))) := ⟨(by rw [hw]; exact (by refine Xu ?_; refine blk_far ?_ NB92_94.out _; refine Xu ?_; refine blk_far ?_ NB92_94.out _; refine Xu ?_; refine blk_far ?_ NB92_94.out _; refine Xu ?_; exact B92.out))⟩; have n2_ : Aside0 (w68.heap[gb93]? = some (.cells #[.int .i64 a1_0, .int .i64 a1_1, .slice A1_2 l1_2.length c1_2] 29 (0, 0))) := ⟨(by rw [hw]; exact (by refine Xu ?_; refine blk_far ?_ NB93_94.out _; refine Xu ?_; refine blk_far ?_ NB93_94.out _; refine Xu ?_; refine blk_far ?_ NB93_94.out _; refine Xu ?_; exact B93.out))⟩; have n3_ : Aside0 (w68.heap[gb94]? = some (.cells #[.int .i64 0, .int .i64 0, .slice none 0 0] 29 (0, 0))) := ⟨(by rw [hw]; exact (by refine Xu ?_; refine blk_put (cs := #[.int .i64 0, .int .i64 0, .slice none 0 0]) ?_ 2 _ rfl; refine Xu ?_; refine blk_put (cs := #[.int .i64 0, .int .i64 0, .slice none 0 0]) ?_ 1 _ rfl; refine Xu ?_; refine blk_put (cs := #[.int .i64 0, .int .i64 0, .slice none 0 0]) ?_ 0 _ rfl; refine Xu ?_; exact B94.out))⟩; have n4_ : Aside0 (w68.heap[gb325]? = some (.cells #[.int .i64 t96, .int .i64 t97, .slice Ao60 t98.length co60] 29 (0, 0))) := ⟨(by rw [hw]; exact (by refine Xu ?_; refine blk_far ?_ NB325_94.out _; refine Xu ?_; refine blk_far ?_ NB325_94.out _; refine Xu ?_; refine blk_far ?_ NB325_94.out _; refine Xu ?_; exact B325.out))⟩; have n5_ : Aside0 (Below w.heap.size w w68) := ⟨(by rw [hw]; exact Xi)⟩; clear hw; clear HO99; clear B92; clear B93; clear B94; clear B325; clear HB; have HO99 := n0_; have B92 := n1_; have B93 := n2_; have B94 := n3_; have B325 := n4_; have HB := n5_; clear n0_ n1_ n2_ n3_ n4_ n5_))
  refine bodyPost_ret (results_ct rfl _ _ gb94 29 #[.int .i64 0, .int .i64 0, .slice none 0 0] (0, 0) _ rfl B94.out Try.underlying29 rfl (by kernel_rfl)) rfl ?_
  exact ⟨_, Xe, by first | exact Kd.S_nil _ _ _ _ _ | exact Kd.N_nil _ _ _ _ _ | exact Kd.V_nil _ _ _ _ _ | exact Kd.Q_nil _ _ _ _ _ | exact Kd.R_nil _ _ _ _ _, Xi⟩
 have c63b0 : decide (40 < (t98.length : Int)) = false := decide_eq_false c63
 have c63b1 : decide (40 < t98.length) = false := decide_eq_false (by omega)
 clear c63
 (first | rw [c63b0] | (simp only [i64_w, i32_w]; rw [c63b0]) | skip)
 obtain ⟨t326, A69, H⟩ := Xbi H
 try dsimp only at H
 have HC70 := Am H
 clear H
 have hnb71 := NB325_92.out
 have hnc71 := NB92_325.out
 have hnb72 := NB325_93.out
 have hnc72 := NB93_325.out
 have hnb73 := NB325_94.out
 have hnc73 := NB94_325.out
 obtain ⟨Z74_0, Z74_1, Z74_2⟩ := Xc3 B325
 obtain ⟨F74_0, F74_1, F74_2⟩ := Xf3 B325
 go_upto_if 42 with ((with_reducible refine gate_callee (f := 96) rfl ?_); refine Xgo 41 Try.func96 #[.agg #[.int .i64 t96, .int .i64 t97, .slice Ao60 t98.length co60], .int .i64 t96, .int .i64 6] ?_; (with_reducible refine (spec_l02Deep.calls kj2 t96 t97 _ _ t98 t96 6 t326 _ ?s1 ?s2 A69.out).mono ?_); (case s1 => exact Xcd (Kd.N_reads' HO99.out).2.2); (case s2 => exact (Kd.N_reads' HO99.out).2.1); rintro e w75 ⟨rfl, hb⟩; refine ⟨_, rfl, ?_⟩; replace HO99 := Am (Kd.N_below (Xq HO99) hb); replace B92 := Xbb B92 hb; replace B93 := Xbb B93 hb; replace B94 := Xbb B94 hb; replace B325 := Xbb B325 hb; replace HB := Xhb hb; clear hb)
 have H := HC70.out
 clear HC70
 obtain ⟨c76, H⟩ | ⟨c76, H⟩ := Xiu H
 ·have c76b0 : decide (6 < t326) = true := decide_eq_true c76
  clear c76
  (first | rw [c76b0] | (simp only [i64_w, i32_w]; rw [c76b0]) | skip)
  simp only [Option.some.injEq, Prod.mk.injEq] at H
  obtain ⟨rfl, rfl, rfl, rfl⟩ := H
  have hnb77 := NB94_92.out
  have hnc77 := NB92_94.out
  have hnb78 := NB94_93.out
  have hnc78 := NB93_94.out
  have hnb79 := NB94_325.out
  have hnc79 := NB325_94.out
  obtain ⟨Z80_0, Z80_1, Z80_2⟩ := Xc3 B94
  obtain ⟨F80_0, F80_1, F80_2⟩ := Xf3 B94
  go_wp2_with (first | ((with_reducible refine gate_store (t := 29) (p := 4) rfl ?_); refine store_event (t := 29) (p := 4) (v := ?vo_w81) (w1 := (((w75.setCell ⟨gb94, 0, none⟩ (.int .i64 0)).setCell ⟨gb94, 1, none⟩ (.int .i64 0)).setCell ⟨gb94, 2, none⟩ (.slice none 0 0))) ?hg ?ho ?hn ?hr ?_; (case ho => rfl); (case hg => rfl); (case hn => rfl); (case hr => first | (go_simp; done) | (go_simp; rfl)); intro w81 hw; have n0_ : Aside0 (Kd.N k43 43 w81 w.heap.size (fun k_ => (w.heap.size ≤ k_) ∧ k_ ≠ gb92 ∧ k_ ≠ gb93 ∧ k_ ≠ gb94 ∧ k_ ≠ gb325) (.slice Ao60 t98.length co60) t98) := ⟨(by rw [hw]; exact (by (with_reducible repeat (first | apply Kd.N_alloc | apply Kd.N_drewN | apply Kd.N_drew)); exact Kd.N_mono (Kd.N_far (p := ⟨gb94, 2, none⟩) (Kd.N_far (p := ⟨gb94, 1, none⟩) (Kd.N_far (p := ⟨gb94, 0, none⟩) (Kd.N_mono HO99.out (fun k_ hk => (⟨hk, hk.2.2.2.1⟩ : _ ∧ k_ ≠ gb94))) (fun _ hk => hk.2) (.int .i64 0)) (fun _ hk => hk.2) (.int .i64 0)) (fun _ hk => hk.2) (.slice none 0 0)) (fun _ hk => ⟨hk.1.1, ⟨hk.1.2.1, ⟨hk.1.2.2.1, ⟨hk.1.2.2.2.1, hk.1.2.2.2.2⟩⟩⟩⟩)))⟩; have n1_ : Aside0 (w81.heap[gb92]? = some (.cells #[.int .i64 a0_0, .int .i64 a0_1, .slice A0_2 l0_2.length c0_2] 29 (0, 0))) := ⟨(by rw [hw]; exact (by refine Xu ?_; refine blk_far ?_ NB92_94.out _; refine Xu ?_; refine blk_far ?_ NB92_94.out _; refine Xu ?_; refine blk_far ?_ NB92_94.out _; refine Xu ?_; exact B92.out))⟩; have n2_ : Aside0 (w81.heap[gb93]? = some (.cells #[.int .i64 a1_0, .int .i64 a1_1, .slice A1_2 l1_2.length c1_2] 29 (0, 0))) := ⟨(by rw [hw]; exact (by refine Xu ?_; refine blk_far ?_ NB93_94.out _; refine Xu ?_; refine blk_far ?_ NB93_94.out _; refine Xu ?_; refine blk_far ?_ NB93_94.out _; refine Xu ?_; exact B93.out))⟩; have n3_ : Aside0 (w81.heap[gb94]? = some (.cells #[.int .i64 0, .int .i64 0, .slice none 0 0] 29 (0, 0))) := ⟨(by rw [hw]; exact (by refine Xu ?_; refine blk_put (cs := #[.int .i64 0, .int .i64 0, .slice none 0 0]) ?_ 2 _ rfl; refine Xu ?_; refine blk_put (cs := #[.int .i64 0, .int .i64 0, .slice none 0 0]) ?_ 1 _ rfl; refine Xu ?_; refine blk_put (cs := #[.int .i64 0, .int .i64 0, .slice none 0 0]) ?_ 0 _ rfl; refine Xu ?_; exact B94.out))⟩; have n4_ : Aside0 (w81.heap[gb325]? = some (.cells #[.int .i64 t96, .int .i64 t97, .slice Ao60 t98.length co60] 29 (0, 0))) := ⟨(by rw [hw]; exact (by refine Xu ?_; refine blk_far ?_ NB325_94.out _; refine Xu ?_; refine blk_far ?_ NB325_94.out _; refine Xu ?_; refine blk_far ?_ NB325_94.out _; refine Xu ?_; exact B325.out))⟩; have n5_ : Aside0 (Below w.heap.size w w81) := ⟨(by rw [hw]; exact Xi)⟩; clear hw; clear HO99; clear B92; clear B93; clear B94; clear B325; clear HB; have HO99 := n0_; have B92 := n1_; have B93 := n2_; have B94 := n3_; have B325 := n4_; have HB := n5_; clear n0_ n1_ n2_ n3_ n4_ n5_))
  refine bodyPost_ret (results_ct rfl _ _ gb94 29 #[.int .i64 0, .int .i64 0, .slice none 0 0] (0, 0) _ rfl B94.out Try.underlying29 rfl (by kernel_rfl)) rfl ?_
  exact ⟨_, Xe, by first | exact Kd.S_nil _ _ _ _ _ | exact Kd.N_nil _ _ _ _ _ | exact Kd.V_nil _ _ _ _ _ | exact Kd.Q_nil _ _ _ _ _ | exact Kd.R_nil _ _ _ _ _, Xi⟩
 have c76b0 : decide (6 < t326) = false := decide_eq_false c76
 clear c76
 (first | rw [c76b0] | (simp only [i64_w, i32_w]; rw [c76b0]) | skip)
 simp only [Option.some.injEq, Prod.mk.injEq] at H
 obtain ⟨rfl, rfl, rfl, rfl⟩ := H
 have hnb82 := NB325_92.out
 have hnc82 := NB92_325.out
 have hnb83 := NB325_93.out
 have hnc83 := NB93_325.out
 have hnb84 := NB325_94.out
 have hnc84 := NB94_325.out
 obtain ⟨Z85_0, Z85_1, Z85_2⟩ := Xc3 B325
 obtain ⟨F85_0, F85_1, F85_2⟩ := Xf3 B325
 have hnb86 := NB94_92.out
 have hnc86 := NB92_94.out
 have hnb87 := NB94_93.out
 have hnc87 := NB93_94.out
 obtain ⟨Z88_0, Z88_1, Z88_2⟩ := Xc3 B94
 obtain ⟨F88_0, F88_1, F88_2⟩ := Xf3 B94
 go_wp2_with (first | ((with_reducible refine gate_store (t := 29) (p := 4) rfl ?_); refine store_event (t := 29) (p := 4) (v := ?vo_w89) (w1 := (((w75.setCell ⟨gb94, 0, none⟩ (.int .i64 t96)).setCell ⟨gb94, 1, none⟩ (.int .i64 t97)).setCell ⟨gb94, 2, none⟩ (.slice Ao60 t98.length co60))) ?hg ?ho ?hn ?hr ?_; (case ho => rfl); (case hg => rfl); (case hn => rfl); (case hr => first | (go_simp; done) | (go_simp; rfl)); intro w89 hw; have n0_ : Aside0 (Kd.N k43 43 w89 w.heap.size (fun k_ => (w.heap.size ≤ k_) ∧ k_ ≠ gb92 ∧ k_ ≠ gb93 ∧ k_ ≠ gb94 ∧ k_ ≠ gb325) (.slice Ao60 t98.length co60) t98) := ⟨(by rw [hw]; exact (by (with_reducible repeat (first | apply Kd.N_alloc | apply Kd.N_drewN | apply Kd.N_drew)); exact Kd.N_mono (Kd.N_far (p := ⟨gb94, 2, none⟩) (Kd.N_far (p := ⟨gb94, 1, none⟩) (Kd.N_far (p := ⟨gb94, 0, none⟩) (Kd.N_mono HO99.out (fun k_ hk => (⟨hk, hk.2.2.2.1⟩ : _ ∧ k_ ≠ gb94))) (fun _ hk => hk.2) (.int .i64 t96)) (fun _ hk => hk.2) (.int .i64 t97)) (fun _ hk => hk.2) (.slice Ao60 t98.length co60)) (fun _ hk => ⟨hk.1.1, ⟨hk.1.2.1, ⟨hk.1.2.2.1, ⟨hk.1.2.2.2.1, hk.1.2.2.2.2⟩⟩⟩⟩)))⟩; have n1_ : Aside0 (w89.heap[gb92]? = some (.cells #[.int .i64 a0_0, .int .i64 a0_1, .slice A0_2 l0_2.length c0_2] 29 (0, 0))) := ⟨(by rw [hw]; exact (by refine Xu ?_; refine blk_far ?_ NB92_94.out _; refine Xu ?_; refine blk_far ?_ NB92_94.out _; refine Xu ?_; refine blk_far ?_ NB92_94.out _; refine Xu ?_; exact B92.out))⟩; have n2_ : Aside0 (w89.heap[gb93]? = some (.cells #[.int .i64 a1_0, .int .i64 a1_1, .slice A1_2 l1_2.length c1_2] 29 (0, 0))) := ⟨(by rw [hw]; exact (by refine Xu ?_; refine blk_far ?_ NB93_94.out _; refine Xu ?_; refine blk_far ?_ NB93_94.out _; refine Xu ?_; refine blk_far ?_ NB93_94.out _; refine Xu ?_; exact B93.out))⟩; have n3_ : Aside0 (w89.heap[gb94]? = some (.cells #[.int .i64 t96, .int .i64 t97, .slice Ao60 t98.length co60] 29 (0, 0))) := ⟨(by rw [hw]; exact (by refine Xu ?_; refine blk_put (cs := #[.int .i64 t96, .int .i64 t97, .slice none 0 0]) ?_ 2 _ rfl; refine Xu ?_; refine blk_put (cs := #[.int .i64 t96, .int .i64 0, .slice none 0 0]) ?_ 1 _ rfl; refine Xu ?_; refine blk_put (cs := #[.int .i64 0, .int .i64 0, .slice none 0 0]) ?_ 0 _ rfl; refine Xu ?_; exact B94.out))⟩; have n4_ : Aside0 (w89.heap[gb325]? = some (.cells #[.int .i64 t96, .int .i64 t97, .slice Ao60 t98.length co60] 29 (0, 0))) := ⟨(by rw [hw]; exact (by refine Xu ?_; refine blk_far ?_ NB325_94.out _; refine Xu ?_; refine blk_far ?_ NB325_94.out _; refine Xu ?_; refine blk_far ?_ NB325_94.out _; refine Xu ?_; exact B325.out))⟩; have n5_ : Aside0 (Below w.heap.size w w89) := ⟨(by rw [hw]; exact Xi)⟩; clear hw; clear HO99; clear B92; clear B93; clear B94; clear B325; clear HB; have HO99 := n0_; have B92 := n1_; have B93 := n2_; have B94 := n3_; have B325 := n4_; have HB := n5_; clear n0_ n1_ n2_ n3_ n4_ n5_))
 refine bodyPost_ret (results_ct rfl _ _ gb94 29 #[.int .i64 t96, .int .i64 t97, .slice Ao60 t98.length co60] (0, 0) _ rfl B94.out Try.underlying29 rfl (by kernel_rfl)) rfl ?_
 exact ⟨_, Xe, by (with_reducible repeat (first | apply Kd.N_alloc | apply Kd.N_drewN | apply Kd.N_drew)); exact Kd.N_mono HO99.out (fun _ hk => hk.1), Xi⟩
def impl_Doc_find_1.f (a0_0 : Int) (a0_1 : Int) (a0_2 : Int) (a0_3 : ByteArray) (l0_4 : List Int) (a1 : Int) : Option (Int) := some (wrap64 (a0_0 - a1))
theorem impl_Doc_find_1.calls (a0_0 : Int) (a0_1 : Int) (a0_2 : Int) (a0_3 : ByteArray) (A0_4 : Option Addr) (c0_4 : Nat) (l0_4 : List Int) (a1 : Int) (r : Int) (w : World) (hr0_4 : Kd.C (Kd.int .i64) w A0_4 l0_4.length l0_4) (hc0_4 : l0_4.length ≤ c0_4) (h : impl_Doc_find_1.f a0_0 a0_1 a0_2 a0_3 l0_4 a1 = some r) :
  Calls Try.prog 110 #[.agg #[.int .i64 a0_0, .int .i64 a0_1, .int .i64 a0_2, .string a0_3, .slice A0_4 l0_4.length c0_4], .int .i64 a1] w fun e w' => e = .returned (.int .i64 r) ∧ Below w.heap.size w w' := by
 have hu43 := Try.underlying43
 have HR0_4 := Am hr0_4
 have HC0_4 := Am hc0_4
 clear hr0_4 hc0_4
 have HB := Am (Below.refl w.heap.size w)
 have H : (some (wrap64 (a0_0 - a1))) = some r := h
 clear h
 obtain rfl := Xsi H
 go_enter Try.func110, Try.ntmps110
 go_wp2_with (first | ((with_reducible refine gate_dst (N := 2) rfl ?_); refine Xbx 2 #[.int .i64 a0_0, .int .i64 a0_1, .int .i64 a0_2, .string a0_3, .slice A0_4 l0_4.length c0_4] 43 ?_; intro gb10 hg w3 B10 GE10 hb; replace HB := Xhb hb; clear hb hg; obtain ⟨Z4_0, Z4_1, Z4_2, Z4_3, Z4_4⟩ := Xc5 B10))
 go_ret
 exact ⟨Xe, Xi⟩
def slices_BinarySearchFunc_impl_Node_impl_Node_int_at_impl_Doc_find_1.l0 : Nat → List (S43) → Int → Int → Int → Int → Option (Int × Bool)
 | 0, _, _, _, _, _ => none
 | k + 1, x0, x1, x8, x9, x10 => if x9 < x10 then (if 0 ≤ (wrap64 ((IntKind.u64.wrap (wrap64 (x9 + x10))) / 2)) then (if (wrap64 ((IntKind.u64.wrap (wrap64 (x9 + x10))) / 2)) < (x0.length : Int) then ((impl_Doc_find_1.f ((rd_T43 x0 (wrap64 ((IntKind.u64.wrap (wrap64 (x9 + x10))) / 2))).f0) ((rd_T43 x0 (wrap64 ((IntKind.u64.wrap (wrap64 (x9 + x10))) / 2))).f1) ((rd_T43 x0 (wrap64 ((IntKind.u64.wrap (wrap64 (x9 + x10))) / 2))).f2) ((rd_T43 x0 (wrap64 ((IntKind.u64.wrap (wrap64 (x9 + x10))) / 2))).f3) ((rd_T43 x0 (wrap64 ((IntKind.u64.wrap (wrap64 (x9 + x10))) / 2))).f4) x1).bind fun t11 => (if t11 < 0 then (slices_BinarySearchFunc_impl_Node_impl_Node_int_at_impl_Doc_find_1.l0 k x0 x1 x8 (wrap64 ((wrap64 ((IntKind.u64.wrap (wrap64 (x9 + x10))) / 2)) + 1)) x10) else (slices_BinarySearchFunc_impl_Node_impl_Node_int_at_impl_Doc_find_1.l0 k x0 x1 x8 x9 (wrap64 ((IntKind.u64.wrap (wrap64 (x9 + x10))) / 2))))) else (none)) else (none)) else (if x9 < x8 then (if 0 ≤ x9 then (if x9 < (x0.length : Int) then ((impl_Doc_find_1.f ((rd_T43 x0 x9).f0) ((rd_T43 x0 x9).f1) ((rd_T43 x0 x9).f2) ((rd_T43 x0 x9).f3) ((rd_T43 x0 x9).f4) x1).bind fun t12 => (some (x9, (t12 == 0)))) else (none)) else (none)) else (some (x9, false)))
def slices_BinarySearchFunc_impl_Node_impl_Node_int_at_impl_Doc_find_1.f (k : Nat) (l0 : List (S43)) (a1 : Int)  : Option (Int × Bool) := slices_BinarySearchFunc_impl_Node_impl_Node_int_at_impl_Doc_find_1.l0 k l0 a1 (l0.length : Int) 0 (l0.length : Int)
theorem slices_BinarySearchFunc_impl_Node_impl_Node_int_at_impl_Doc_find_1.calls (k : Nat) (A0 : Option Addr) (c0 : Nat) (l0 : List (S43)) (a1 : Int)  (r1 : Int) (r2 : Bool) (w : World) (hr0 : Kd.C k43 w A0 l0.length l0) (hc0 : l0.length ≤ c0) (h : slices_BinarySearchFunc_impl_Node_impl_Node_int_at_impl_Doc_find_1.f k l0 a1 = some (r1, r2)) :
  Calls Try.prog 109 #[.slice A0 l0.length c0, .int .i64 a1, .func (.func 110) #[] #[]] w fun e w' => e = .returned (.tuple #[.int .i64 r1, .bool r2]) ∧ Below w.heap.size w w' := by
 have hu43 := Try.underlying43
 have HR0 := Am hr0
 have HC0 := Am hc0
 clear hr0 hc0
 have HB := Am (Below.refl w.heap.size w)
 have H : (slices_BinarySearchFunc_impl_Node_impl_Node_int_at_impl_Doc_find_1.l0 k l0 a1 (l0.length : Int) 0 (l0.length : Int)) = some (r1, r2) := h
 clear h
 have H' := Am H
 clear H
 go_enter Try.func109, Try.ntmps109
 go_wp2
 go_loopg [9, 10] k (fun kq v9 v10 w' => ∃ (x9_1 : Int) (x10_1 : Int), v9 = .int .i64 x9_1 ∧ v10 = .int .i64 x10_1 ∧ Aside0 (slices_BinarySearchFunc_impl_Node_impl_Node_int_at_impl_Doc_find_1.l0 kq l0 a1 (l0.length : Int) x9_1 x10_1 = some (r1, r2)) ∧ Aside0 (kq ≤ k) ∧ Aside0 (Below w.heap.size w w'))
 case atStart => exact ⟨(0), ((l0.length : Int)), Xr, Xr, H', Xkr, ⟨Xi⟩⟩
 clear H'
 obtain ⟨x9_1, x10_1, rfl, rfl, HA, HK1, HB⟩ := hrel
 cases gk with | zero => cases HA.out | succ k1 => ?_
 have H := HA.out
 clear HA
 simp only [slices_BinarySearchFunc_impl_Node_impl_Node_int_at_impl_Doc_find_1.l0] at H
 obtain ⟨c4b0, H⟩ | ⟨c4b0, H⟩ := Xit H
 ·obtain ⟨ji5, hji5⟩ : ∃ j_ : Int, (wrap64 ((IntKind.u64.wrap (wrap64 (x9_1 + x10_1))) / 2)) = j_ := ⟨_, rfl⟩
  replace H : (if 0 ≤ (ji5) then (if (ji5) < (l0.length : Int) then ((impl_Doc_find_1.f ((rd_T43 l0 (ji5)).f0) ((rd_T43 l0 (ji5)).f1) ((rd_T43 l0 (ji5)).f2) ((rd_T43 l0 (ji5)).f3) ((rd_T43 l0 (ji5)).f4) a1).bind fun t17 => (if t17 < 0 then (slices_BinarySearchFunc_impl_Node_impl_Node_int_at_impl_Doc_find_1.l0 k1 l0 a1 (l0.length : Int) (wrap64 ((ji5) + 1)) x10_1) else (slices_BinarySearchFunc_impl_Node_impl_Node_int_at_impl_Doc_find_1.l0 k1 l0 a1 (l0.length : Int) x9_1 ji5))) else (none)) else (none)) = some (r1, r2) := by first | (rw [hji5] at H; exact H) | (simp only [hji5] at H ⊢; exact H)
  have hji5w : (IntKind.i64.wrap ((IntKind.u64.wrap (wrap64 (x9_1 + x10_1))) / 2)) = ji5 := (i64_w _).trans hji5
  obtain ⟨c6b0, H⟩ := Xid H
  obtain ⟨c7b0, H⟩ := Xid H
  obtain ⟨t17, A8, H⟩ := Xbi H
  try dsimp only at H
  have HC9 := Am H
  clear H
  obtain ⟨ad18, A329_4, c329_4, e18, p18, q18, hx18_0, hx18_1, hx18_2, hx18_3, hx18_4, HC18_4, HR18_4⟩ := at_B43 HR0 (ji5) Xa Xa HB
  cases e18
  go_upto_if 31 with (go_at_call 110; (with_reducible refine (impl_Doc_find_1.calls ((rd_T43 l0 (ji5)).f0) ((rd_T43 l0 (ji5)).f1) ((rd_T43 l0 (ji5)).f2) ((rd_T43 l0 (ji5)).f3) _ _ ((rd_T43 l0 (ji5)).f4) a1 t17 _ ?s1 ?s2 A8.out).mono ?_); (case s1 => exact Xc HR18_4); (case s2 => exact HC18_4.out); rintro e w10 ⟨rfl, hb⟩; replace HB := Xhb hb; clear hb)
  have H := HC9.out
  clear HC9
  obtain ⟨c11b0, H⟩ | ⟨c11b0, H⟩ := Xit H
  ·(first | rw [c11b0] | (simp only [i64_w, i32_w]; rw [c11b0]) | skip)
   have H' := Am H
   clear H
   go_wp2
   go_roundg k1
   case measure => have := HK1.out; omega
   case rel => exact ⟨(wrap64 ((ji5) + 1)), (x10_1), (by first | rfl | (simp; done) | (simp only [← hji5] <;> (first | rfl | simp)) | (simp [*]; done)), Xr, H', Xk1, ⟨Xi⟩⟩
  (first | rw [c11b0] | (simp only [i64_w, i32_w]; rw [c11b0]) | skip)
  have H' := Am H
  clear H
  go_wp2
  go_roundg k1
  case measure => have := HK1.out; omega
  case rel => exact ⟨(x9_1), (ji5), Xr, (by first | rfl | (simp; done) | (simp only [← hji5] <;> (first | rfl | simp)) | (simp [*]; done)), H', Xk1, ⟨Xi⟩⟩
 obtain ⟨c12b0, H⟩ | ⟨c12b0, H⟩ := Xit H
 ·obtain ⟨c13b0, H⟩ := Xid H
  obtain ⟨c14b0, H⟩ := Xid H
  obtain ⟨t19, A15, H⟩ := Xbi H
  try dsimp only at H
  simp only [Option.some.injEq, Prod.mk.injEq] at H
  obtain ⟨rfl, rfl⟩ := H
  obtain ⟨ad20, A331_4, c331_4, e20, p20, q20, hx20_0, hx20_1, hx20_2, hx20_3, hx20_4, HC20_4, HR20_4⟩ := at_B43 HR0 x9_1 Xa Xa HB
  cases e20
  go_wp2_with (first | (go_at_call 110; (with_reducible refine (impl_Doc_find_1.calls ((rd_T43 l0 x9_1).f0) ((rd_T43 l0 x9_1).f1) ((rd_T43 l0 x9_1).f2) ((rd_T43 l0 x9_1).f3) _ _ ((rd_T43 l0 x9_1).f4) a1 t19 _ ?s1 ?s2 A15.out).mono ?_); (case s1 => exact Xc HR20_4); (case s2 => exact HC20_4.out); rintro e w16 ⟨rfl, hb⟩; replace HB := Xhb hb; clear hb))
  go_ret2
  exact ⟨Xe, Xi⟩
 simp only [Option.some.injEq, Prod.mk.injEq] at H
 obtain ⟨rfl, rfl⟩ := H
 go_wp2
 go_ret2
 exact ⟨Xe, Xi⟩
end Go.Proofs.Ytpdhccdmbdbdpaa.XA
section
namespace Go.Proofs.Ytpdhccdmbdbdpaa.XA
set_option linter.unusedVariables false
open Go.RowKit Go.Proofs.YtpdhccdmbdbdpaaW.PrintWords Go.Proofs.YtpdhccdmbdbdpaaW.PrintLast Go.Proofs.YtpdhccdmbdbdpaaW.PrintMore
def impl_Doc_find.f (k : Nat) (a0_0 : Int) (a0_1 : Int) (l0_2 : List S43) (a1 : Int) : Option Int :=
  (slices_BinarySearchFunc_impl_Node_impl_Node_int_at_impl_Doc_find_1.f k l0_2 a1).bind fun t => if t.2 = true then (if 0 ≤ t.1 then (if t.1 < (l0_2.length : Int) then some t.1 else none) else none) else some (-1)
set_option maxHeartbeats 8000000 in
set_option maxRecDepth 100000 in
theorem impl_Doc_find.calls (k : Nat) (g0_ : Nat) (a0_0 : Int) (a0_1 : Int) (A0_2 : Option Addr) (c0_2 : Nat) (l0_2 : List (S43)) (a1 : Int) (r : Int) (w : World) (hg0_ : w.heap[g0_]? = some (.cells #[.int .i64 a0_0, .int .i64 a0_1, .slice A0_2 l0_2.length c0_2] 29 (0, 0))) (hr0_2 : Kd.C k43 w A0_2 l0_2.length l0_2) (hc0_2 : l0_2.length ≤ c0_2) (h : impl_Doc_find.f k a0_0 a0_1 l0_2 a1 = some r) :
    Calls Try.prog 70 #[.pointer (some ⟨g0_, 0, none⟩), .int .i64 a1] w fun e w' => ∃ p : Option Addr, e = .returned (.pointer p) ∧ (r < 0 → p = none) ∧ (0 ≤ r → ∃ ad, A0_2 = some ad ∧ p = some (ad.add (r.toNat * 5))) ∧ Below w.heap.size w w' := by
  have HR := Aside0.mk hr0_2
  have HC := Aside0.mk hc0_2
  have HB := Aside0.mk (Below.refl w.heap.size w)
  have hcz_2 : w.cell? ⟨g0_, 2, none⟩ = some (.slice A0_2 l0_2.length c0_2) := (blk_cell hg0_ 2).trans rfl
  have hfz_2 := blk_frozen hg0_ 2
  clear hr0_2 hc0_2
  obtain ⟨⟨i, ok⟩, hbs, h⟩ := Option.bind_eq_some_iff.mp h
  have A1 := Aside0.mk hbs
  clear hbs
  cases ok with
  | false =>
    obtain rfl : -1 = r := by simpa using h
    clear h
    go_enter Try.func70, Try.ntmps70
    go_wp2_with (first | ((with_reducible refine gate_callee (f := 109) rfl ?_); refine goesL_ (some 13) rfl rfl Try.func109 (by kernel_rfl) rfl #[.slice A0_2 l0_2.length c0_2, .int .i64 a1, .func (.func 110) #[] #[]] rfl (by (try simp only [List.map_toArray, List.map_cons, List.map_nil]); first | done | rfl) ?_; (with_reducible refine (slices_BinarySearchFunc_impl_Node_impl_Node_int_at_impl_Doc_find_1.calls k _ _ l0_2 a1 i false _ ?side1 ?side2 A1.out).mono ?_); (case side1 => exact HR.out); (case side2 => exact HC.out); rintro e w2 ⟨rfl, hb⟩; refine ⟨_, rfl, ?_⟩))
    go_ret
    exact ⟨none, by first | rfl | simp, fun _ => rfl, fun h0 => absurd h0 (by decide), hb⟩
  | true =>
    have h0 : 0 ≤ i ∧ i < (l0_2.length : Int) ∧ i = r := by
      simp only [if_true] at h
      by_cases p : 0 ≤ i
      · rw [if_pos p] at h
        by_cases q : i < (l0_2.length : Int)
        · rw [if_pos q] at h; exact ⟨p, q, Option.some.inj h⟩
        · rw [if_neg q] at h; cases h
      · rw [if_neg p] at h; cases h
    obtain ⟨p0, q0, rfl⟩ := h0
    clear h
    obtain ⟨ad, hA⟩ : ∃ ad, A0_2 = some ad := by
      obtain ⟨ad, _, _, e, _⟩ := at_T43 HR.out i p0 q0
      exact ⟨ad, e⟩
    subst hA
    have p1 := eq_true p0
    have q1 := eq_true q0
    go_enter Try.func70, Try.ntmps70
    go_wp2_with (first | ((with_reducible refine gate_callee (f := 109) rfl ?_); refine goesL_ (some 13) rfl rfl Try.func109 (by kernel_rfl) rfl #[.slice (some ad) l0_2.length c0_2, .int .i64 a1, .func (.func 110) #[] #[]] rfl (by (try simp only [List.map_toArray, List.map_cons, List.map_nil]); first | done | rfl) ?_; (with_reducible refine (slices_BinarySearchFunc_impl_Node_impl_Node_int_at_impl_Doc_find_1.calls k _ _ l0_2 a1 i true _ ?side1 ?side2 A1.out).mono ?_); (case side1 => exact HR.out); (case side2 => exact HC.out); rintro e w2 ⟨rfl, hb⟩; refine ⟨_, rfl, ?_⟩; have hczw := (hb.cell (World.block_lt_of_cell? w _ hcz_2)).trans hcz_2))
    go_ret
    exact ⟨_, by first | rfl | simp, fun h0 => absurd p0 (by omega), fun _ => ⟨ad, rfl, rfl⟩, hb⟩
end Go.Proofs.Ytpdhccdmbdbdpaa.XA
end
namespace Go.Proofs.Ytpdhccdmbdbdpaa.XA
open Go.RowKit Go.Proofs.YtpdhccdmbdbdpaaW.PrintWords Go.Proofs.YtpdhccdmbdbdpaaW.PrintLast Go.Proofs.YtpdhccdmbdbdpaaW.PrintMore XW
attribute [local go_sem] max2_int min2_int max_two min_two max_three min_three max_four min_four   -- for this text's walks alone
set_option linter.unusedVariables false
set_option linter.unusedSimpArgs false
set_option maxHeartbeats 8000000
set_option maxRecDepth 100000
mutual
def impl_Doc_order.l0 : Nat → List Int → List Int → Int → Int → Int → Int → List (S43) → Option (List Int)
 | 0, _, _, _, _, _, _, _ => none
 | k + 1, x1, x18, x19, x20, x1000, x1001, x1002 => if x20 < x19 then (if 0 ≤ x20 then (if x20 < (x18.length : Int) then ((impl_Doc_order.f k x1000 x1001 x1002 x1 (rd x18 x20)).bind fun t10 => (impl_Doc_order.l0 k t10 x18 x19 (wrap64 (x20 + 1)) x1000 x1001 x1002)) else (none)) else (none)) else (some x1)
def impl_Doc_order.f : Nat → Int → Int → List (S43) → List Int → Int → Option (List Int)
 | 0, _, _, _, _, _ => none
 | k + 1, a0_0, a0_1, l0_2, l1, a2 => if l1.length < 17592186044416 then ((impl_Doc_find.f k a0_0 a0_1 l0_2 a2).bind fun t10 => (if t10 < 0 then (none) else (if 0 ≤ t10 then (if t10 < (l0_2.length : Int) then (impl_Doc_order.l0 k (l1 ++ [a2]) ((rd_T43 l0_2 t10).f4) (((rd_T43 l0_2 t10).f4).length : Int) 0 a0_0 a0_1 l0_2) else (none)) else (none)))) else (none)
end
theorem impl_Doc_order.calls (k : Nat) : ∀ (g0_ : Nat) (a0_0 : Int) (a0_1 : Int) (A0_2 : Option Addr) (c0_2 : Nat) (l0_2 : List (S43)) (P1_ : Nat → Prop) (u9000_ : Value) (l1 : List Int) (a2 : Int) (r : List Int) (w0 w : World) (hB : Below w0.heap.size w0 w) (hg0_ : w.heap[g0_]? = some (.cells #[.int .i64 a0_0, .int .i64 a0_1, .slice A0_2 l0_2.length c0_2] 29 (0, 0))) (hr0_2 : ∀ W_, Kept w W_ (fun k_ => P1_ k_) → Kd.C k43 W_ A0_2 l0_2.length l0_2) (hc0_2 : l0_2.length ≤ c0_2) (ho1 : Kd.R (Kd.int .i64) 3 w w0.heap.size P1_ u9000_ l1) (h : impl_Doc_order.f k a0_0 a0_1 l0_2 l1 a2 = some r),
  Calls Try.prog 64 #[.pointer (some ⟨g0_, 0, none⟩), u9000_, .int .i64 a2] w fun e w' => ∃ v0_ : Value, e = .returned (v0_) ∧ Kd.R (Kd.int .i64) 3 w' w0.heap.size (fun k_ => (P1_ k_ ∨ w.heap.size ≤ k_)) v0_ r ∧ Below w0.heap.size w0 w' ∧ Kept w w' (fun k_ => P1_ k_) := by
 induction k using Nat.strongRecOn with
 | _ k ih =>
 intro g0_ a0_0 a0_1 A0_2 c0_2 l0_2 P1_ u9000_ l1 a2 r w0 w hB hg0_ hr0_2 hc0_2 ho1 h
 cases k with
 | zero => exact absurd h (by simp [impl_Doc_order.f])
 | succ k =>
 simp only [impl_Doc_order.f] at h
 have HR0_2 := Am hr0_2
 have HC0_2 := Am hc0_2
 clear hr0_2 hc0_2
 have HO1 := Am (show Kd.R (Kd.int .i64) 3 w w0.heap.size (fun k_ => (P1_ k_ ∨ w.heap.size ≤ k_)) u9000_ l1 from Kd.R_mono ho1 (fun k_ hk => (.inl hk)))
 have B0 := Am hg0_
 clear hg0_
 have HK := Am (Kept.refl w (fun k_ => P1_ k_))
 have HW0 := Am hB.size
 have HB := Am hB
 clear hB
 have H : (if l1.length < 17592186044416 then ((impl_Doc_find.f k a0_0 a0_1 l0_2 a2).bind fun t18 => (if t18 < 0 then (none) else (if 0 ≤ t18 then (if t18 < (l0_2.length : Int) then (impl_Doc_order.l0 k (l1 ++ [a2]) ((rd_T43 l0_2 t18).f4) (((rd_T43 l0_2 t18).f4).length : Int) 0 a0_0 a0_1 l0_2) else (none)) else (none)))) else (none)) = some r := h
 clear h
 obtain ⟨c4, H⟩ | ⟨c4, H⟩ := Xiu H
 ·have LMc4 := Am c4
  clear c4
  obtain ⟨y19, hy19⟩ : ∃ y_ : List Int, y_ = (l1 ++ [a2]) := ⟨_, rfl⟩
  replace H : ((impl_Doc_find.f k a0_0 a0_1 l0_2 a2).bind fun t18 => (if t18 < 0 then (none) else (if 0 ≤ t18 then (if t18 < (l0_2.length : Int) then (impl_Doc_order.l0 k y19 ((rd_T43 l0_2 t18).f4) (((rd_T43 l0_2 t18).f4).length : Int) 0 a0_0 a0_1 l0_2) else (none)) else (none)))) = some r := by first | (rw [hy19]; with_reducible exact H) | (have H2_ := (Option.bind_some _ _).symm.trans H; rw [hy19]; with_reducible exact H2_) | (have H2_ := (Option.bind_some _ _).symm.trans H; with_reducible exact H2_) | with_reducible exact H | (rw [hy19]; exact H) | exact H
  have Ny19 := Am hy19
  clear hy19
  obtain ⟨t18, A5, H⟩ := Xbi H
  try dsimp only at H
  obtain ⟨c6b0, H⟩ | ⟨c6b0, H⟩ := Xit H
  ·exact absurd H (by simp)
  obtain ⟨c7b0, H⟩ := Xid H
  obtain ⟨c8b0, H⟩ := Xid H
  have H' := Am H
  clear H
  go_enter Try.func64, Try.ntmps64
  go_wp2_with (first | ((with_reducible refine gate_builtin (b := .append) (xs := #[.tmp 9, .tmp 11]) rfl ?_); at_builtin; refine Kd.R_append (Kd.int .i64) (w0 := w0) w0.heap.size rfl (.tmp 9) (.tmp 11) 37 3 (.int .i64 0) 8 rfl Try.underlying37 info3 rfl (by decide) (by omega) u9000_ l1 a2 [.int .i64 a2] (fun k_ => (P1_ k_ ∨ w.heap.size ≤ k_)) (fun _ => False) rfl rfl ?aP (fun _ hk => hk.elim) ?aF ?aO ?aB ?aS ?aL ?_; (case aP => exact rfl); (case aB => exact Xi); (case aF => exact (fun k_ hk => (.inr (Nat.le_trans (by first | exact HK.out.1 | exact (show Kept w _ (fun k_ => P1_ k_) from by repeat first | (with_reducible first | exact HK.out | apply Kept.alloc | apply Kept.drewN | apply Kept.drew | refine Kept.setCell ?_ (.inr GW0.out) _) | exact HK.out).1) hk)))); (case aO => exact (Xq HO1)); (case aS => exact (below_size Xi)); (case aL => have := LMc4.out; omega); intro v337 w9 ho hb hg hat; rw [← Ny19.out] at ho; replace B0 := Am (blk_grown (g := g0_) (o := .cells #[.int .i64 a0_0, .int .i64 a0_1, .slice A0_2 l0_2.length c0_2] 29 (0, 0)) (Xq' B0) hg (Kd.R_ne HO1.out B0.out (by decide))); replace HB := Am (hb); replace HK := Am (Kept.of_grown (S := (fun k_ => P1_ k_)) hg (by repeat first | (with_reducible first | exact HK.out | apply Kept.alloc | apply Kept.drewN | apply Kept.drew | refine Kept.setCell ?_ (.inr GW0.out) _) | exact HK.out) (fun k_ e_ => (HO1.out.1 k_ e_))); have HO21 := Am (ho); clear HO1; clear ho hb hg hat) | ((with_reducible refine gate_callee (f := 70) rfl ?_); refine Xgo 15 Try.func70 #[.pointer (some ⟨g0_, 0, none⟩), .int .i64 a2] ?_; (with_reducible refine (impl_Doc_find.calls k g0_ a0_0 a0_1 A0_2 c0_2 l0_2 a2 t18 _ ?s1 ?s2 ?s3 A5.out).mono ?_); (case s1 => exact (Xq' B0)); (case s2 => exact Kd.C_kept_now HR0_2.out (by repeat first | (with_reducible first | exact HK.out | apply Kept.alloc | apply Kept.drewN | apply Kept.drew | refine Kept.setCell ?_ (.inr GW0.out) _) | exact HK.out)); (case s3 => exact HC0_2.out); rintro e w10 ⟨pF, rfl, hpn, hps, hb⟩; refine ⟨_, rfl, ?_⟩; obtain ⟨adf11, hae, rfl⟩ := hps (Int.not_lt.mp (of_decide_eq_false Xa)); clear hpn; cases hae; replace HO21 := Am (Kd.R_below (Xq HO21) hb); replace B0 := Xbb B0 hb; replace HK := Am (Kept.below (S := (fun k_ => P1_ k_)) (by repeat first | (with_reducible first | exact HK.out | apply Kept.alloc | apply Kept.drewN | apply Kept.drew | refine Kept.setCell ?_ (.inr GW0.out) _) | exact HK.out) hb); replace HB := Xhb hb; clear hb; have p22 : 0 ≤ (t18 : Int) := Xo; have q22 : t18 < (l0_2.length : Int) := Xo; obtain ⟨ad22, A340_4, c340_4, e22, hx22_0, hx22_1, hx22_2, hx22_3, hx22_4, hl340_4, hi340_4⟩ := at_T43 (Kd.C_kept_now HR0_2.out HK.out) t18 p22 q22; obtain rfl : adf11 = ad22 := (by injection e22); obtain ⟨af_, Af_, cf_, ef_, ff_, lf_, gf_⟩ := footT43_4 HR0_2.out t18 p22 q22; obtain rfl : adf11 = af_ := (by first | (injection ef_) | (injection ef_.symm)); have ff1_ := (ff_ _ HK.out).symm.trans hx22_4; injection (Option.some.inj ff1_) with ha_ hn_ hc_; rw [ha_] at gf_; clear hi340_4 ff1_ ff_ lf_ ha_ hn_ hc_; have hi340_4 := gf_; clear gf_ ef_; have HR22_4 := Am hi340_4; have HC22_4 := Am hl340_4; clear hi340_4 hl340_4; replace p22 := eq_true p22; replace q22 := eq_true q22))
  go_loopg [1, 20] k (fun kq v1 v20 w' => ∃ (x1_1 : List Int) (x20_1 : Int), v20 = .int .i64 x20_1 ∧ Aside0 (impl_Doc_order.l0 kq x1_1 ((rd_T43 l0_2 t18).f4) (((rd_T43 l0_2 t18).f4).length : Int) x20_1 a0_0 a0_1 l0_2 = some r) ∧ Aside0 (kq ≤ k) ∧ Aside0 (Kd.R (Kd.int .i64) 3 w' w0.heap.size (fun k_ => (P1_ k_ ∨ w.heap.size ≤ k_)) v1 x1_1) ∧ Aside0 (w'.heap[g0_]? = some (.cells #[.int .i64 a0_0, .int .i64 a0_1, (.slice (some adf11) l0_2.length c0_2)] 29 (0, 0))) ∧ Aside0 (Kept w w' (fun k_ => P1_ k_)) ∧ Aside0 (Below w0.heap.size w0 w'))
  case atStart => exact ⟨(y19), (0), Xr, H', Xkr, (Xp' HO21), (Xp B0), ⟨by repeat first | (with_reducible first | exact HK.out | apply Kept.alloc | apply Kept.drewN | apply Kept.drew | refine Kept.setCell ?_ (.inr GW0.out) _) | exact HK.out⟩, ⟨Xi⟩⟩
  clear H'
  (try clear c4); (try clear c6); (try clear c6b0); (try clear c7); (try clear c7b0); (try clear c8); (try clear c8b0); (try clear hx22_0); (try clear hx22_1); (try clear hx22_2); (try clear hx22_3); (try clear hx22_4); (try clear p22); (try clear q22)
  obtain ⟨x1_1, x20_1, rfl, HA, HK1, O_1, B0, HK, HB⟩ := hrel
  cases gk with | zero => cases HA.out | succ k1 => ?_
  have H := HA.out
  clear HA
  simp only [impl_Doc_order.l0] at H
  obtain ⟨c12b0, H⟩ | ⟨c12b0, H⟩ := Xit H
  ·obtain ⟨c13b0, H⟩ := Xid H
   obtain ⟨c14b0, H⟩ := Xid H
   obtain ⟨t23, A15, H⟩ := Xbi H
   try dsimp only at H
   have H' := Am H
   clear H
   have p24 : 0 ≤ (x20_1 : Int) := Xo
   have q24 : x20_1 < (((rd_T43 l0_2 t18).f4).length : Int) := Xo
   obtain ⟨ad24, e24, hx24_0⟩ := Kd.at_int (Kd.C_kept_now HR22_4.out HK.out) x20_1 p24 q24
   cases e24
   replace p24 := eq_true p24
   replace q24 := eq_true q24
   obtain ⟨Ao16, co16, eo16⟩ := Kd.R_slice O_1.out
   subst eo16
   go_wp2_with (first | ((with_reducible refine gate_callee (f := 64) rfl ?_); refine Xgo 27 Try.func64 #[.pointer (some ⟨g0_, 0, none⟩), .slice Ao16 x1_1.length co16, .int .i64 (rd ((rd_T43 l0_2 t18).f4) x20_1)] ?_; (with_reducible refine (ih k1 (by have := HK1.out; omega) g0_ a0_0 a0_1 (some adf11) c0_2 l0_2 (fun k_ => some k_ = (.slice Ao16 x1_1.length co16 : Value).ownBlock) (.slice Ao16 x1_1.length co16) x1_1 (rd ((rd_T43 l0_2 t18).f4) x20_1) t23 w0 _ ?s1 ?s2 ?s3 ?s4 ?s5 A15.out).mono ?_); (case s1 => exact Xi); (case s2 => exact (Xq' B0)); (case s3 => exact Kd.C_kept_call HR0_2.out (by repeat first | (with_reducible first | exact HK.out | apply Kept.alloc | apply Kept.drewN | apply Kept.drew | refine Kept.setCell ?_ (.inr GW0.out) _) | exact HK.out) (fun k_ hs_ => (fun e_ => (O_1.out.1 k_ e_.symm)) hs_)); (case s4 => exact HC0_2.out); (case s5 => exact Kd.R_tight rfl O_1.out); rintro e w17 ⟨v343, rfl, ho0, hb, hkp⟩; refine ⟨_, rfl, ?_⟩; replace B0 := Am (blk_kept (Xq' B0) hkp (fun hs_ => (fun e_ => (Kd.R_ne O_1.out B0.out (by decide)) e_) hs_)); have HO25 := Am (Kd.R_mono (ok' := fun k_ => (P1_ k_ ∨ w.heap.size ≤ k_)) ho0 (fun k_ hk_ => Or.elim hk_ (fun hs_ => (O_1.out.1 k_ (hs_).symm)) (fun hn_ => (.inr (Nat.le_trans (by first | exact HK.out.1 | exact (show Kept w _ (fun k_ => P1_ k_) from by repeat first | (with_reducible first | exact HK.out | apply Kept.alloc | apply Kept.drewN | apply Kept.drew | refine Kept.setCell ?_ (.inr GW0.out) _) | exact HK.out).1) hn_))))); replace HK := Am (Kept.then_ (S := (fun k_ => P1_ k_)) (by repeat first | (with_reducible first | exact HK.out | apply Kept.alloc | apply Kept.drewN | apply Kept.drew | refine Kept.setCell ?_ (.inr GW0.out) _) | exact HK.out) hkp (fun k_ hs_ => (fun e_ => (O_1.out.1 k_ e_.symm)) hs_)); replace HB := Am (hb); clear O_1; (try clear hb); (try clear hkp); (try clear ho0)))
   go_roundg k1
   case measure => have := HK1.out; omega
   case rel => exact ⟨(t23), (wrap64 (x20_1 + 1)), Xr, H', Xk1, (Xp' HO25), (Xp B0), ⟨by repeat first | (with_reducible first | exact HK.out | apply Kept.alloc | apply Kept.drewN | apply Kept.drew | refine Kept.setCell ?_ (.inr GW0.out) _) | exact HK.out⟩, ⟨Xi⟩⟩
  obtain rfl := Xsi H
  go_wp2
  go_ret
  exact ⟨_, Xe, Xq O_1, Xi, by repeat first | (with_reducible first | exact HK.out | apply Kept.alloc | apply Kept.drewN | apply Kept.drew | refine Kept.setCell ?_ (.inr GW0.out) _) | exact HK.out⟩
 exact absurd H (by simp)
def impl_within.f (a0 : Int) (a1 : Int) (a2 : Int) : Option (Bool) := if a0 ≥ a1 then (some (decide (a0 ≤ a2))) else (some false)
theorem impl_within.calls (a0 : Int) (a1 : Int) (a2 : Int) (r : Bool) (w : World) (h : impl_within.f a0 a1 a2 = some r) :
  Calls Try.prog 66 #[.int .i64 a0, .int .i64 a1, .int .i64 a2] w fun e w' => e = .returned (.bool r) ∧ Drawn0 w w' := by
 have H : (if a0 ≥ a1 then (some (decide (a0 ≤ a2))) else (some false)) = some r := h
 clear h
 obtain ⟨c4, H⟩ | ⟨c4, H⟩ := Xiu H
 ·have c4b0 : decide (a1 ≤ a0) = true := decide_eq_true c4
  clear c4
  obtain rfl := Xsi H
  go_enter Try.func66, Try.ntmps66
  go_wp2
  go_ret
  exact ⟨Xr, Xdr⟩
 have c4b0 : decide (a1 ≤ a0) = false := decide_eq_false c4
 clear c4
 obtain rfl := Xsi H
 go_enter Try.func66, Try.ntmps66
 go_wp2
 go_ret
 exact ⟨Xr, Xdr⟩
def impl_Doc_has.f (k : Nat) (a0_0 : Int) (a0_1 : Int) (l0_2 : List (S43)) (a1 : Int) : Option (Bool) := (impl_Doc_find.f k a0_0 a0_1 l0_2 a1).bind fun t10 => (if t10 < 0 then (some false) else (some true))
theorem impl_Doc_has.calls (k : Nat) (g0_ : Nat) (a0_0 : Int) (a0_1 : Int) (A0_2 : Option Addr) (c0_2 : Nat) (l0_2 : List (S43)) (a1 : Int) (r : Bool) (w : World) (hg0_ : w.heap[g0_]? = some (.cells #[.int .i64 a0_0, .int .i64 a0_1, .slice A0_2 l0_2.length c0_2] 29 (0, 0))) (hr0_2 : Kd.C k43 w A0_2 l0_2.length l0_2) (hc0_2 : l0_2.length ≤ c0_2) (h : impl_Doc_has.f k a0_0 a0_1 l0_2 a1 = some r) :
  Calls Try.prog 67 #[.pointer (some ⟨g0_, 0, none⟩), .int .i64 a1] w fun e w' => e = .returned (.bool r) ∧ Below w.heap.size w w' := by
 have HR0_2 := Am hr0_2
 have HC0_2 := Am hc0_2
 clear hr0_2 hc0_2
 have B0 := Am hg0_
 clear hg0_
 have HB := Am (Below.refl w.heap.size w)
 have H : ((impl_Doc_find.f k a0_0 a0_1 l0_2 a1).bind fun t10 => (if t10 < 0 then (some false) else (some true))) = some r := h
 clear h
 obtain ⟨t10, A3, H⟩ := Xbi H
 try dsimp only at H
 obtain ⟨c4b0, H⟩ | ⟨c4b0, H⟩ := Xit H
 ·obtain rfl := Xsi H
  go_enter Try.func67, Try.ntmps67
  go_wp2_with (first | ((with_reducible refine gate_callee (f := 70) rfl ?_); refine Xgo 7 Try.func70 #[.pointer (some ⟨g0_, 0, none⟩), .int .i64 a1] ?_; (with_reducible refine (impl_Doc_find.calls k g0_ a0_0 a0_1 A0_2 c0_2 l0_2 a1 t10 _ ?s1 ?s2 ?s3 A3.out).mono ?_); (case s1 => exact B0.out); (case s2 => exact Xcd HR0_2.out); (case s3 => exact HC0_2.out); rintro e w5 ⟨pF, rfl, hpn, hps, hb⟩; refine ⟨_, rfl, ?_⟩; obtain rfl := hpn (Xo); clear hps; replace B0 := Xbb B0 hb; replace HB := Xhb hb; clear hb))
  go_ret
  exact ⟨Xe, Xi⟩
 obtain rfl := Xsi H
 go_enter Try.func67, Try.ntmps67
 go_wp2_with (first | ((with_reducible refine gate_callee (f := 70) rfl ?_); refine Xgo 7 Try.func70 #[.pointer (some ⟨g0_, 0, none⟩), .int .i64 a1] ?_; (with_reducible refine (impl_Doc_find.calls k g0_ a0_0 a0_1 A0_2 c0_2 l0_2 a1 t10 _ ?s1 ?s2 ?s3 A3.out).mono ?_); (case s1 => exact B0.out); (case s2 => exact Xcd HR0_2.out); (case s3 => exact HC0_2.out); rintro e w6 ⟨pF, rfl, hpn, hps, hb⟩; refine ⟨_, rfl, ?_⟩; obtain ⟨adf7, hae, rfl⟩ := hps (Int.not_lt.mp (of_decide_eq_false Xa)); clear hpn; cases hae; replace B0 := Xbb B0 hb; replace HB := Xhb hb; clear hb))
 go_ret
 exact ⟨Xe, Xi⟩
mutual
def impl_Doc_depth.l0 : Nat → Int → Int → List Int → Int → Int → Int → Int → List (S43) → Option (Int)
 | 0, _, _, _, _, _, _, _, _ => none
 | k + 1, x2, x7, x17, x18, x19, x1000, x1001, x1002 => if x19 < x18 then (if 0 ≤ x19 then (if x19 < (x17.length : Int) then ((impl_Doc_depth.f k x1000 x1001 x1002 (rd x17 x19) (wrap64 (x2 + 1))).bind fun t10 => (impl_Doc_depth.l0 k x2 (mx x7 t10) x17 x18 (wrap64 (x19 + 1)) x1000 x1001 x1002)) else (none)) else (none)) else (some (wrap64 (x7 + 1)))
def impl_Doc_depth.f : Nat → Int → Int → List (S43) → Int → Int → Option (Int)
 | 0, _, _, _, _, _ => none
 | k + 1, a0_0, a0_1, l0_2, a1, a2 => if a2 > 6 then (some 0) else ((impl_Doc_find.f k a0_0 a0_1 l0_2 a1).bind fun t10 => (if t10 < 0 then (none) else (if 0 ≤ t10 then (if t10 < (l0_2.length : Int) then (impl_Doc_depth.l0 k a2 0 ((rd_T43 l0_2 t10).f4) (((rd_T43 l0_2 t10).f4).length : Int) 0 a0_0 a0_1 l0_2) else (none)) else (none))))
end
theorem impl_Doc_depth.calls (k : Nat) : ∀ (g0_ : Nat) (a0_0 : Int) (a0_1 : Int) (A0_2 : Option Addr) (c0_2 : Nat) (l0_2 : List (S43)) (a1 : Int) (a2 : Int) (r : Int) (w : World) (hg0_ : w.heap[g0_]? = some (.cells #[.int .i64 a0_0, .int .i64 a0_1, .slice A0_2 l0_2.length c0_2] 29 (0, 0))) (hr0_2 : Kd.C k43 w A0_2 l0_2.length l0_2) (hc0_2 : l0_2.length ≤ c0_2) (h : impl_Doc_depth.f k a0_0 a0_1 l0_2 a1 a2 = some r),
  Calls Try.prog 107 #[.pointer (some ⟨g0_, 0, none⟩), .int .i64 a1, .int .i64 a2] w fun e w' => e = .returned (.int .i64 r) ∧ Below w.heap.size w w' := by
 induction k using Nat.strongRecOn with
 | _ k ih =>
 intro g0_ a0_0 a0_1 A0_2 c0_2 l0_2 a1 a2 r w hg0_ hr0_2 hc0_2 h
 cases k with
 | zero => exact absurd h (by simp [impl_Doc_depth.f])
 | succ k =>
 simp only [impl_Doc_depth.f] at h
 have HR0_2 := Am hr0_2
 have HC0_2 := Am hc0_2
 clear hr0_2 hc0_2
 have B0 := Am hg0_
 clear hg0_
 have HB := Am (Below.refl w.heap.size w)
 have H : (if a2 > 6 then (some 0) else ((impl_Doc_find.f k a0_0 a0_1 l0_2 a1).bind fun t17 => (if t17 < 0 then (none) else (if 0 ≤ t17 then (if t17 < (l0_2.length : Int) then (impl_Doc_depth.l0 k a2 0 ((rd_T43 l0_2 t17).f4) (((rd_T43 l0_2 t17).f4).length : Int) 0 a0_0 a0_1 l0_2) else (none)) else (none))))) = some r := h
 clear h
 obtain ⟨c4, H⟩ | ⟨c4, H⟩ := Xiu H
 ·have c4b0 : decide (6 < a2) = true := decide_eq_true c4
  clear c4
  obtain rfl := Xsi H
  go_enter Try.func107, Try.ntmps107
  go_wp2
  go_ret
  exact ⟨Xe, Xi⟩
 have c4b0 : decide (6 < a2) = false := decide_eq_false c4
 clear c4
 obtain ⟨t17, A5, H⟩ := Xbi H
 try dsimp only at H
 obtain ⟨c6b0, H⟩ | ⟨c6b0, H⟩ := Xit H
 ·exact absurd H (by simp)
 obtain ⟨c7, H⟩ | ⟨c7, H⟩ := Xiu H
 ·have c7b0 : decide (0 ≤ t17) = true := decide_eq_true c7
  clear c7
  obtain ⟨c8b0, H⟩ := Xid H
  have H' := Am H
  clear H
  go_enter Try.func107, Try.ntmps107
  go_wp2_with (first | ((with_reducible refine gate_callee (f := 70) rfl ?_); refine Xgo 14 Try.func70 #[.pointer (some ⟨g0_, 0, none⟩), .int .i64 a1] ?_; (with_reducible refine (impl_Doc_find.calls k g0_ a0_0 a0_1 A0_2 c0_2 l0_2 a1 t17 _ ?s1 ?s2 ?s3 A5.out).mono ?_); (case s1 => exact B0.out); (case s2 => exact Xcd HR0_2.out); (case s3 => exact HC0_2.out); rintro e w9 ⟨pF, rfl, hpn, hps, hb⟩; refine ⟨_, rfl, ?_⟩; obtain ⟨adf10, hae, rfl⟩ := hps (Int.not_lt.mp (of_decide_eq_false Xa)); clear hpn; cases hae; replace B0 := Xbb B0 hb; replace HB := Xhb hb; clear hb; have p18 : 0 ≤ (t17 : Int) := Xo; have q18 : t17 < (l0_2.length : Int) := Xo; obtain ⟨ad18, A347_4, c347_4, e18, hx18_0, hx18_1, hx18_2, hx18_3, hx18_4, hl347_4, hi347_4⟩ := at_T43 HR0_2.out t17 p18 q18; obtain rfl : adf10 = ad18 := (by injection e18); replace hx18_0 := Xm HB hx18_0; replace hx18_1 := Xm HB hx18_1; replace hx18_2 := Xm HB hx18_2; replace hx18_3 := Xm HB hx18_3; replace hx18_4 := Xm HB hx18_4; have HR18_4 := Am hi347_4; have HC18_4 := Am hl347_4; clear hi347_4 hl347_4; replace p18 := eq_true p18; replace q18 := eq_true q18))
  go_loopg [7, 19] k (fun kq v7 v19 w' => ∃ (x7_1 : Int) (x19_1 : Int), v7 = .int .i64 x7_1 ∧ v19 = .int .i64 x19_1 ∧ Aside0 (impl_Doc_depth.l0 kq a2 x7_1 ((rd_T43 l0_2 t17).f4) (((rd_T43 l0_2 t17).f4).length : Int) x19_1 a0_0 a0_1 l0_2 = some r) ∧ Aside0 (kq ≤ k) ∧ Aside0 (w'.heap[g0_]? = some (.cells #[.int .i64 a0_0, .int .i64 a0_1, (.slice (some adf10) l0_2.length c0_2)] 29 (0, 0))) ∧ Aside0 (Below w.heap.size w w'))
  case atStart => exact ⟨(0), (0), Xr, Xr, H', Xkr, B0, ⟨Xi⟩⟩
  clear H'
  (try clear c4); (try clear c4b0); (try clear c6); (try clear c6b0); (try clear c7); (try clear c7b0); (try clear c8); (try clear c8b0); (try clear hx18_0); (try clear hx18_1); (try clear hx18_2); (try clear hx18_3); (try clear hx18_4); (try clear p18); (try clear q18)
  obtain ⟨x7_1, x19_1, rfl, rfl, HA, HK1, B0, HB⟩ := hrel
  cases gk with | zero => cases HA.out | succ k1 => ?_
  have H := HA.out
  clear HA
  simp only [impl_Doc_depth.l0] at H
  obtain ⟨c11b0, H⟩ | ⟨c11b0, H⟩ := Xit H
  ·obtain ⟨c12b0, H⟩ := Xid H
   obtain ⟨c13b0, H⟩ := Xid H
   obtain ⟨t20, A14, H⟩ := Xbi H
   try dsimp only at H
   obtain ⟨ji15, hji15⟩ : ∃ j_ : Int, (mx x7_1 t20) = j_ := ⟨_, rfl⟩
   replace H : (impl_Doc_depth.l0 k1 a2 ji15 ((rd_T43 l0_2 t17).f4) (((rd_T43 l0_2 t17).f4).length : Int) (wrap64 (x19_1 + 1)) a0_0 a0_1 l0_2) = some r := by first | (rw [hji15] at H; exact H) | (simp only [hji15] at H ⊢; exact H)
   (try rw [hji15] at A14)
   have hji15_ : (if x7_1 < t20 then t20 else x7_1) = ji15 := hji15
   have H' := Am H
   clear H
   have p21 : 0 ≤ (x19_1 : Int) := Xo
   have q21 : x19_1 < (((rd_T43 l0_2 t17).f4).length : Int) := Xo
   obtain ⟨ad21, e21, hx21_0⟩ := Kd.at_int HR18_4.out x19_1 p21 q21
   cases e21
   replace hx21_0 := Xm HB hx21_0
   replace p21 := eq_true p21
   replace q21 := eq_true q21
   go_wp2_with (first | ((with_reducible refine gate_callee (f := 107) rfl ?_); refine Xgo 28 Try.func107 #[.pointer (some ⟨g0_, 0, none⟩), .int .i64 (rd ((rd_T43 l0_2 t17).f4) x19_1), .int .i64 (wrap64 (a2 + 1))] ?_; (with_reducible refine (ih k1 (by have := HK1.out; omega) g0_ a0_0 a0_1 (some adf10) c0_2 l0_2 (rd ((rd_T43 l0_2 t17).f4) x19_1) (wrap64 (a2 + 1)) t20 _ ?s1 ?s2 ?s3 A14.out).mono ?_); (case s1 => exact B0.out); (case s2 => exact Xc HR0_2); (case s3 => exact HC0_2.out); rintro e w16 ⟨rfl, hb⟩; refine ⟨_, rfl, ?_⟩; replace B0 := Xbb B0 hb; replace HB := Xhb hb; clear hb))
   go_roundg k1
   case measure => have := HK1.out; omega
   case rel => exact ⟨(ji15), (wrap64 (x19_1 + 1)), (by first | rfl | (simp; done) | (simp only [← hji15] <;> (first | rfl | simp)) | (simp [*]; done)), Xr, H', Xk1, B0, ⟨Xi⟩⟩
  obtain rfl := Xsi H
  go_wp2
  go_ret
  exact ⟨Xe, Xi⟩
 exact absurd H (by simp)
def impl_Doc_isDeep.f (k : Nat) (a0_0 : Int) (a0_1 : Int) (l0_2 : List (S43)) : Option (Bool) := (impl_Doc_depth.f k a0_0 a0_1 l0_2 a0_0 0).bind fun t10 => (some (decide (t10 > 6)))
theorem impl_Doc_isDeep.calls (k : Nat) (g0_ : Nat) (a0_0 : Int) (a0_1 : Int) (A0_2 : Option Addr) (c0_2 : Nat) (l0_2 : List (S43)) (r : Bool) (w : World) (hg0_ : w.heap[g0_]? = some (.cells #[.int .i64 a0_0, .int .i64 a0_1, .slice A0_2 l0_2.length c0_2] 29 (0, 0))) (hr0_2 : Kd.C k43 w A0_2 l0_2.length l0_2) (hc0_2 : l0_2.length ≤ c0_2) (h : impl_Doc_isDeep.f k a0_0 a0_1 l0_2 = some r) :
  Calls Try.prog 68 #[.pointer (some ⟨g0_, 0, none⟩)] w fun e w' => e = .returned (.bool r) ∧ Below w.heap.size w w' := by
 have HR0_2 := Am hr0_2
 have HC0_2 := Am hc0_2
 clear hr0_2 hc0_2
 have B0 := Am hg0_
 clear hg0_
 have HB := Am (Below.refl w.heap.size w)
 have H : ((impl_Doc_depth.f k a0_0 a0_1 l0_2 a0_0 0).bind fun t10 => (some (decide (t10 > 6)))) = some r := h
 clear h
 obtain ⟨t10, A2, H⟩ := Xbi H
 try dsimp only at H
 obtain rfl := Xsi H
 obtain ⟨Z3_0, Z3_1, Z3_2⟩ := Xc3 B0
 go_enter Try.func68, Try.ntmps68
 go_wp2_with (first | ((with_reducible refine gate_callee (f := 107) rfl ?_); refine Xgo 8 Try.func107 #[.pointer (some ⟨g0_, 0, none⟩), .int .i64 a0_0, .int .i64 0] ?_; (with_reducible refine (impl_Doc_depth.calls k g0_ a0_0 a0_1 A0_2 c0_2 l0_2 a0_0 0 t10 _ ?s1 ?s2 ?s3 A2.out).mono ?_); (case s1 => exact B0.out); (case s2 => exact Xcd HR0_2.out); (case s3 => exact HC0_2.out); rintro e w4 ⟨rfl, hb⟩; refine ⟨_, rfl, ?_⟩; replace B0 := Xbb B0 hb; replace HB := Xhb hb; clear hb))
 go_ret
 exact ⟨Xe, Xi⟩
end Go.Proofs.Ytpdhccdmbdbdpaa.XA
