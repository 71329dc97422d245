/- Words and contracts of this claim. Conditions: each theorem's own premises. -/
import Derived.Test.YtahhgjkgfbppeaaGreatZ1
import Derived.Test.YtahhgjkgfbppeaaGreatZ3
import Derived.Test.YtahhgjkgfbppeaaGreatZ4
namespace Go.Proofs.YtahhgjkgfbppeaaGreat.XA
open Go.RowKit Go.Proofs.YtahhgjkgfbppeaaGreatW.PrintWords Go.Proofs.YtahhgjkgfbppeaaGreatW.PrintLast Go.Proofs.YtahhgjkgfbppeaaGreatW.PrintMore XW
attribute [local go_sem] max2_int min2_int max_two min_two max_three min_three max_four min_four   -- for this text's walks alone
set_option linter.unusedVariables false
set_option linter.unusedSimpArgs false
set_option maxHeartbeats 8000000
set_option maxRecDepth 100000
mutual
def impl_DocOK.j0 : Nat → Bool → Int → Int → List (S113) → Option (Bool)
 | 0, _, _, _, _ => none
 | k + 1, x20, x476000, x476001, x476002 => if x20 = true then (some false) else (impl_DocOK.l0 k x476002 (x476002.length : Int) 0 x476000 x476001 x476002)
def impl_DocOK.l0 : Nat → List (S113) → Int → Int → Int → Int → List (S113) → Option (Bool)
 | 0, _, _, _, _, _, _ => none
 | k + 1, x22, x23, x24, x476000, x476001, x476002 => if x24 < x23 then (if 0 ≤ x24 then (if x24 < (x22.length : Int) then ((impl_within.f ((rd_T113 x22 x24).f0) 1 (wrap64 (x476001 - 1))).bind fun t10 => (if t10 = true then (if x24 > 0 then (if 0 ≤ (wrap64 (x24 - 1)) then (if (wrap64 (x24 - 1)) < (x476002.length : Int) then (if ((rd_T113 x476002 (wrap64 (x24 - 1))).f0) ≥ ((rd_T113 x22 x24).f0) then (impl_DocOK.j2 k x22 x23 x24 true x476000 x476001 x476002) else ((impl_within.f ((rd_T113 x22 x24).f1) 1 8).bind fun t11 => (if t11 = true then ((impl_within.f ((rd_T113 x22 x24).f2) 0 99).bind fun t12 => (if t12 = true then (if (((rd_T113 x22 x24).f3).size : Int) > 20 then (impl_DocOK.j2 k x22 x23 x24 true x476000 x476001 x476002) else (impl_DocOK.j2 k x22 x23 x24 (decide ((((rd_T113 x22 x24).f4).length : Int) > 12)) x476000 x476001 x476002)) else (impl_DocOK.j2 k x22 x23 x24 true x476000 x476001 x476002))) else (impl_DocOK.j2 k x22 x23 x24 true x476000 x476001 x476002)))) else (none)) else (none)) else ((impl_within.f ((rd_T113 x22 x24).f1) 1 8).bind fun t13 => (if t13 = true then ((impl_within.f ((rd_T113 x22 x24).f2) 0 99).bind fun t14 => (if t14 = true then (if (((rd_T113 x22 x24).f3).size : Int) > 20 then (impl_DocOK.j2 k x22 x23 x24 true x476000 x476001 x476002) else (impl_DocOK.j2 k x22 x23 x24 (decide ((((rd_T113 x22 x24).f4).length : Int) > 12)) x476000 x476001 x476002)) else (impl_DocOK.j2 k x22 x23 x24 true x476000 x476001 x476002))) else (impl_DocOK.j2 k x22 x23 x24 true x476000 x476001 x476002)))) else (impl_DocOK.j2 k x22 x23 x24 true x476000 x476001 x476002))) else (none)) else (none)) else (impl_DocOK.l1 k x476002 (x476002.length : Int) 0 x476000 x476001 x476002 ([] : List (Int × Bool)))
def impl_DocOK.j2 : Nat → List (S113) → Int → Int → Bool → Int → Int → List (S113) → Option (Bool)
 | 0, _, _, _, _, _, _, _ => none
 | k + 1, x22, x23, x24, x75, x476000, x476001, x476002 => if x75 = true then (some false) else (impl_DocOK.l0 k x22 x23 (wrap64 (x24 + 1)) x476000 x476001 x476002)
def impl_DocOK.l1 : Nat → List (S113) → Int → Int → Int → Int → List (S113) → List (Int × Bool) → Option (Bool)
 | 0, _, _, _, _, _, _, _ => none
 | k + 1, x79, x80, x81, x476000, x476001, x476002, x487000 => if x81 < x80 then (if 0 ≤ x81 then (if x81 < (x79.length : Int) then (impl_DocOK.l2 k x79 x80 x81 ((rd_T113 x79 x81).f4) (((rd_T113 x79 x81).f4).length : Int) 0 x476000 x476001 x476002 x487000) else (none)) else (none)) else ((impl_Doc_has.f k x476000 x476001 x476002 x476000).bind fun t10 => (if t10 = true then (if (x487000.length : Int) = (wrap64 ((x476002.length : Int) - 1)) then ((impl_Doc_isDeep.f k x476000 x476001 x476002).bind fun t11 => (impl_DocOK.j6 k t11 x476000 x476001 x476002)) else (impl_DocOK.j6 k true x476000 x476001 x476002)) else (impl_DocOK.j6 k true x476000 x476001 x476002)))
def impl_DocOK.l2 : Nat → List (S113) → Int → Int → List Int → Int → Int → Int → Int → List (S113) → List (Int × Bool) → Option (Bool)
 | 0, _, _, _, _, _, _, _, _, _, _ => none
 | k + 1, x79, x80, x81, x86, x87, x88, x476000, x476001, x476002, x487000 => if x88 < x87 then (if 0 ≤ x88 then (if x88 < (x86.length : Int) then (if XM.get false x487000 (rd x86 x88) = true then (impl_DocOK.j5 k (rd x86 x88) x79 x80 x81 x86 x87 x88 true x476000 x476001 x476002 x487000) else (if (rd x86 x88) = x476000 then (impl_DocOK.j5 k (rd x86 x88) x79 x80 x81 x86 x87 x88 true x476000 x476001 x476002 x487000) else ((impl_Doc_has.f k x476000 x476001 x476002 (rd x86 x88)).bind fun t10 => (impl_DocOK.j5 k (rd x86 x88) x79 x80 x81 x86 x87 x88 (!t10) x476000 x476001 x476002 x487000)))) else (none)) else (none)) else (impl_DocOK.l1 k x79 x80 (wrap64 (x81 + 1)) x476000 x476001 x476002 x487000)
def impl_DocOK.j5 : Nat → Int → List (S113) → Int → Int → List Int → Int → Int → Bool → Int → Int → List (S113) → List (Int × Bool) → Option (Bool)
 | 0, _, _, _, _, _, _, _, _, _, _, _, _ => none
 | k + 1, x9, x79, x80, x81, x86, x87, x88, x105, x476000, x476001, x476002, x487000 => if x105 = true then (some false) else (impl_DocOK.l2 k x79 x80 x81 x86 x87 (wrap64 (x88 + 1)) x476000 x476001 x476002 (XM.put x487000 x9 true))
def impl_DocOK.j6 : Nat → Bool → Int → Int → List (S113) → Option (Bool)
 | 0, _, _, _, _ => none
 | k + 1, x125, x476000, x476001, x476002 => if x125 = true then (some false) else ((impl_Doc_order.f k x476000 x476001 x476002 ([] : List Int) x476000).bind fun t10 => (some ((t10.length : Int) == (x476002.length : Int))))
end
def impl_DocOK.f (k : Nat) (a0_0 : Int) (a0_1 : Int) (l0_2 : List (S113)) : Option (Bool) := (impl_within.f (l0_2.length : Int) 1 40).bind fun t10 => (if t10 = true then ((impl_within.f a0_1 2 999999).bind fun t11 => (impl_DocOK.j0 k (!t11) a0_0 a0_1 l0_2)) else (impl_DocOK.j0 k true a0_0 a0_1 l0_2))
def impl_DocOK.T23 : Bool × List (List Nat × List Nat) := (true, [([], []), ([0], [0]), ([1], [1]), ([2], [2]), ([], []), ([4], [4]), ([5], [5]), ([3, 6], [3, 6]), ([7, 2, 0, 1, 2, 3, 4, 5, 6, 7], [7])])
def impl_DocOK.B23 : List Nat := [0, 1, 3, 7, 0, 16, 48, 127, 255]
theorem impl_DocOK.tab23 : rtab .any (opsOf Tryz.f68 23) = impl_DocOK.T23 := by kernel_rfl
theorem impl_DocOK.bits23 : waitsOk impl_DocOK.T23.2 impl_DocOK.B23 = true := by kernel_rfl
theorem impl_DocOK.calls (k : Nat) (a0_0 : Int) (a0_1 : Int) (A0_2 : Option Addr) (c0_2 : Nat) (l0_2 : List (S113)) (r : Bool) (w : World) (hr0_2 : Kd.C k113 w A0_2 l0_2.length l0_2) (hc0_2 : l0_2.length ≤ c0_2) (h : impl_DocOK.f k a0_0 a0_1 l0_2 = some r) :
  Calls Tryz.prog 68 #[.agg #[.int .i64 a0_0, .int .i64 a0_1, .slice A0_2 l0_2.length c0_2]] w fun e w' => e = .returned (.bool r) ∧ Below w.heap.size w w' := by
 have hu35 := Tryz.underlying35
 have hu113 := Tryz.underlying113
 have HR0_2 := Am hr0_2
 have HC0_2 := Am hc0_2
 clear hr0_2 hc0_2
 have HB := Am (Below.refl w.heap.size w)
 have H : ((impl_within.f (l0_2.length : Int) 1 40).bind fun t476 => (if t476 = true then ((impl_within.f a0_1 2 999999).bind fun t477 => (impl_DocOK.j0 k (!t477) a0_0 a0_1 l0_2)) else (impl_DocOK.j0 k true a0_0 a0_1 l0_2))) = some r := h
 clear h
 have HC2 := Am H
 clear H
 go_enter Tryz.func68, Tryz.ntmps68
 go_upto_region 1 with ((with_reducible refine gate_dst (N := 1) rfl ?_); (try (refine gate_guard (by rfl) ?_; dsimp only)); refine Xbx 1 #[.int .i64 a0_0, .int .i64 a0_1, .slice A0_2 l0_2.length c0_2] 35 ?_; intro gb475 hg w3 B475 GE475 hb; replace HB := Xhb hb; clear hb hg)
 (try simp only [XW.q0, XW.q1, XW.q2])
 go_cut [20] (fun v20 wc => ∃ (kq : Nat) (x20_1 : Bool), v20 = .bool x20_1 ∧ Aside0 (impl_DocOK.j0 kq x20_1 a0_0 a0_1 l0_2 = some r) ∧ Aside0 (kq ≤ k) ∧ Aside0 (wc.heap[gb475]? = some (.cells #[.int .i64 a0_0, .int .i64 a0_1, (.slice A0_2 l0_2.length c0_2)] 35 (0, 0))) ∧ Aside0 (Below w.heap.size w wc))
 case first =>
  have H := HC2.out
  clear HC2
  obtain ⟨t476, A4, H⟩ := Xbi H
  try dsimp only at H
  by_cases c5 : t476 = true
  ·subst c5
   try rw [if_pos rfl] at H
   obtain ⟨t477, A6, H⟩ := Xbi H
   try dsimp only at H
   have H' := Am H
   clear H
   obtain ⟨Z7_0, Z7_1, Z7_2⟩ := Xc3 B475
   obtain ⟨F7_0, F7_1, F7_2⟩ := Xf3 B475
   go_wp2_with (first | ((with_reducible refine gate_callee (f := 124) rfl ?_); refine Xgo 13 Tryz.func124 #[.int .i64 (l0_2.length : Int), .int .i64 1, .int .i64 40] ?_; (with_reducible refine (impl_within.calls (l0_2.length : Int) 1 40 true _ A4.out).mono ?_); rintro e w' ⟨rfl, ⟨nd, rfl⟩⟩; refine ⟨_, rfl, ?_⟩) | (go_at_call 124; (with_reducible refine (impl_within.calls a0_1 2 999999 t477 _ A6.out).mono ?_); rintro e w' ⟨rfl, ⟨nd, rfl⟩⟩; (try exact Xdd)))
   go_meet
   case rel => exact ⟨_, (!t477), Xr, H', Xko, B475, ⟨Xi⟩⟩
  replace c5 := Xbf c5
  subst c5
  try rw [if_neg Xft] at H
  have H' := Am H
  clear H
  obtain ⟨Z8_0, Z8_1, Z8_2⟩ := Xc3 B475
  obtain ⟨F8_0, F8_1, F8_2⟩ := Xf3 B475
  go_wp2_with (first | ((with_reducible refine gate_callee (f := 124) rfl ?_); refine Xgo 13 Tryz.func124 #[.int .i64 (l0_2.length : Int), .int .i64 1, .int .i64 40] ?_; (with_reducible refine (impl_within.calls (l0_2.length : Int) 1 40 false _ A4.out).mono ?_); rintro e w' ⟨rfl, ⟨nd, rfl⟩⟩; refine ⟨_, rfl, ?_⟩))
  go_meet
  case rel => exact ⟨_, (true), Xr, H', Xko, B475, ⟨Xi⟩⟩
 clear HC2
 obtain ⟨kq, x20_1, rfl, HA, HJ1, B475, HB⟩ := hcut
 cases kq with | zero => cases HA.out | succ kj1 => ?_
 have H := HA.out
 clear HA
 simp only [impl_DocOK.j0] at H
 by_cases c9 : x20_1 = true
 ·subst c9
  try rw [if_pos rfl] at H
  obtain rfl := Xsi H
  go_wp2
  go_ret
  exact ⟨Xe, Xi⟩
 replace c9 := Xbf c9
 subst c9
 try rw [if_neg Xft] at H
 have H' := Am H
 clear H
 obtain ⟨Z10_0, Z10_1, Z10_2⟩ := Xc3 B475
 obtain ⟨F10_0, F10_1, F10_2⟩ := Xf3 B475
 go_wp2
 go_loopg [24] kj1 (fun kq v24 w' => ∃ (x24_2 : Int), v24 = .int .i64 x24_2 ∧ Aside0 (impl_DocOK.l0 kq l0_2 (l0_2.length : Int) x24_2 a0_0 a0_1 l0_2 = some r) ∧ Aside0 (kq ≤ kj1) ∧ Aside0 (w'.heap[gb475]? = some (.cells #[.int .i64 a0_0, .int .i64 a0_1, (.slice A0_2 l0_2.length c0_2)] 35 (0, 0))) ∧ Aside0 (Below w.heap.size w w'))
 case atStart => exact ⟨(0), Xr, H', Xkr, B475, ⟨Xi⟩⟩
 clear H'
 (try clear c9); (try clear Z10_0); (try clear Z10_1); (try clear Z10_2); (try clear F10_0); (try clear F10_1); (try clear F10_2)
 obtain ⟨x24_2, rfl, HA, HK2, B475, HB⟩ := hrel
 cases gk with | zero => cases HA.out | succ k2 => ?_
 have H := HA.out
 clear HA
 simp only [impl_DocOK.l0] at H
 obtain ⟨c11b0, H⟩ | ⟨c11b0, H⟩ := Xit H
 ·obtain ⟨c12b0, H⟩ := Xid H
  obtain ⟨c13b0, H⟩ := Xid H
  have HC14 := Am H
  clear H
  obtain ⟨ad478, A478_4, c478_4, e478, p478, q478, hx478_0, hx478_1, hx478_2, hx478_3, hx478_4, HC478_4, HR478_4⟩ := at_B113 HR0_2 x24_2 Xa Xa HB
  cases e478
  go_upto_region 6 with (first | ((with_reducible refine gate_dst (N := 4) rfl ?_); (try (refine gate_guard (by rfl) ?_; dsimp only)); refine Xbx 4 #[.int .i64 0, .int .i64 0, .int .i64 0, .string (⟨#[]⟩ : ByteArray), .slice none 0 0] 113 ?_; intro gb479 hg w15 B479 GE479 hb; replace HB := Xhb hb; have NB475_479 := Xnb hg B475; have NB479_475 := Xns NB475_479; replace B475 := Xbb B475 hb; clear hb hg; have hnb16 := NB479_475.out; have hnc16 := NB475_479.out; obtain ⟨Z17_0, Z17_1, Z17_2, Z17_3, Z17_4⟩ := Xc5 B479; obtain ⟨F17_0, F17_1, F17_2, F17_3, F17_4⟩ := Xf5 B479) | ((with_reducible refine gate_store (t := 113) (p := 4) rfl ?_); refine store_event (t := 113) (p := 4) (v := ?vo_w18) (w1 := (((((w15.setCell ⟨gb479, 0, none⟩ (.int .i64 ((rd_T113 l0_2 x24_2).f0))).setCell ⟨gb479, 1, none⟩ (.int .i64 ((rd_T113 l0_2 x24_2).f1))).setCell ⟨gb479, 2, none⟩ (.int .i64 ((rd_T113 l0_2 x24_2).f2))).setCell ⟨gb479, 3, none⟩ (.string ((rd_T113 l0_2 x24_2).f3))).setCell ⟨gb479, 4, none⟩ (.slice A478_4 ((rd_T113 l0_2 x24_2).f4).length c478_4))) ?hg ?ho ?hn ?hr ?_; (case ho => rfl); (case hg => rfl); (case hn => rfl); (case hr => first | (go_simp; done) | (go_simp; rfl)); intro w18 hw; have n0_ : Aside0 (w18.heap[gb475]? = some (.cells #[.int .i64 a0_0, .int .i64 a0_1, .slice (some ad478) l0_2.length c0_2] 35 (0, 0))) := ⟨(by rw [hw]; exact (by refine Xu ?_; refine blk_far ?_ NB475_479.out _; refine Xu ?_; refine blk_far ?_ NB475_479.out _; refine Xu ?_; refine blk_far ?_ NB475_479.out _; refine Xu ?_; refine blk_far ?_ NB475_479.out _; refine Xu ?_; refine blk_far ?_ NB475_479.out _; refine Xu ?_; exact B475.out))⟩; have n1_ : Aside0 (w18.heap[gb479]? = some (.cells #[.int .i64 ((rd_T113 l0_2 x24_2).f0), .int .i64 ((rd_T113 l0_2 x24_2).f1), .int .i64 ((rd_T113 l0_2 x24_2).f2), .string ((rd_T113 l0_2 x24_2).f3), .slice A478_4 ((rd_T113 l0_2 x24_2).f4).length c478_4] 113 (0, 0))) := ⟨(by rw [hw]; exact (by refine Xu ?_; refine blk_put (cs := #[.int .i64 ((rd_T113 l0_2 x24_2).f0), .int .i64 ((rd_T113 l0_2 x24_2).f1), .int .i64 ((rd_T113 l0_2 x24_2).f2), .string ((rd_T113 l0_2 x24_2).f3), .slice none 0 0]) ?_ 4 _ rfl; refine Xu ?_; refine blk_put (cs := #[.int .i64 ((rd_T113 l0_2 x24_2).f0), .int .i64 ((rd_T113 l0_2 x24_2).f1), .int .i64 ((rd_T113 l0_2 x24_2).f2), .string (⟨#[]⟩ : ByteArray), .slice none 0 0]) ?_ 3 _ rfl; refine Xu ?_; refine blk_put (cs := #[.int .i64 ((rd_T113 l0_2 x24_2).f0), .int .i64 ((rd_T113 l0_2 x24_2).f1), .int .i64 0, .string (⟨#[]⟩ : ByteArray), .slice none 0 0]) ?_ 2 _ rfl; refine Xu ?_; refine blk_put (cs := #[.int .i64 ((rd_T113 l0_2 x24_2).f0), .int .i64 0, .int .i64 0, .string (⟨#[]⟩ : ByteArray), .slice none 0 0]) ?_ 1 _ rfl; refine Xu ?_; refine blk_put (cs := #[.int .i64 0, .int .i64 0, .int .i64 0, .string (⟨#[]⟩ : ByteArray), .slice none 0 0]) ?_ 0 _ rfl; refine Xu ?_; exact B479.out))⟩; have n2_ : Aside0 (Below w.heap.size w w18) := ⟨(by rw [hw]; exact Xi)⟩; clear hw; clear B475; clear B479; clear HB; have B475 := n0_; have B479 := n1_; have HB := n2_; clear n0_ n1_ n2_))
  (try simp only [XW.q0, XW.q1, XW.q2])
  go_cut [75] (fun v75 wc => ∃ (kq : Nat) (x75_13 : Bool), v75 = .bool x75_13 ∧ Aside0 (impl_DocOK.j2 kq l0_2 (l0_2.length : Int) x24_2 x75_13 a0_0 a0_1 l0_2 = some r) ∧ Aside0 (kq ≤ k2) ∧ Aside0 (wc.heap[gb475]? = some (.cells #[.int .i64 a0_0, .int .i64 a0_1, (.slice (some ad478) l0_2.length c0_2)] 35 (0, 0))) ∧ Aside0 (wc.heap[gb479]? = some (.cells #[.int .i64 ((rd_T113 l0_2 x24_2).f0), .int .i64 ((rd_T113 l0_2 x24_2).f1), .int .i64 ((rd_T113 l0_2 x24_2).f2), .string ((rd_T113 l0_2 x24_2).f3), (.slice A478_4 ((rd_T113 l0_2 x24_2).f4).length c478_4)] 113 (0, 0))) ∧ Aside0 (Below w.heap.size w wc))
  case first =>
   have H := HC14.out
   clear HC14
   obtain ⟨t480, A19, H⟩ := Xbi H
   try dsimp only at H
   by_cases c20 : t480 = true
   ·subst c20
    try rw [if_pos rfl] at H
    obtain ⟨c21, H⟩ | ⟨c21, H⟩ := Xiu H
    ·have c21b0 : decide (0 < x24_2) = true := decide_eq_true c21
     clear c21
     (first | rw [c21b0] | (simp only [i64_w, i32_w]; rw [c21b0]) | skip)
     obtain ⟨ji22, hji22⟩ : ∃ j_ : Int, (wrap64 (x24_2 - 1)) = j_ := ⟨_, rfl⟩
     replace H : (if 0 ≤ (ji22) then (if (ji22) < (l0_2.length : Int) then (if ((rd_T113 l0_2 (ji22)).f0) ≥ ((rd_T113 l0_2 x24_2).f0) then (impl_DocOK.j2 k2 l0_2 (l0_2.length : Int) x24_2 true a0_0 a0_1 l0_2) else ((impl_within.f ((rd_T113 l0_2 x24_2).f1) 1 8).bind fun t482 => (if t482 = true then ((impl_within.f ((rd_T113 l0_2 x24_2).f2) 0 99).bind fun t483 => (if t483 = true then (if (((rd_T113 l0_2 x24_2).f3).size : Int) > 20 then (impl_DocOK.j2 k2 l0_2 (l0_2.length : Int) x24_2 true a0_0 a0_1 l0_2) else (impl_DocOK.j2 k2 l0_2 (l0_2.length : Int) x24_2 (decide ((((rd_T113 l0_2 x24_2).f4).length : Int) > 12)) a0_0 a0_1 l0_2)) else (impl_DocOK.j2 k2 l0_2 (l0_2.length : Int) x24_2 true a0_0 a0_1 l0_2))) else (impl_DocOK.j2 k2 l0_2 (l0_2.length : Int) x24_2 true a0_0 a0_1 l0_2)))) else (none)) else (none)) = some r := by first | (rw [hji22] at H; exact H) | (simp only [hji22] at H ⊢; exact H)
     (try rw [hji22] at A19)
     have hji22w : (IntKind.i64.wrap (x24_2 - 1)) = ji22 := (i64_w _).trans hji22
     obtain ⟨c23b0, H⟩ := Xid H
     obtain ⟨c24b0, H⟩ := Xid H
     obtain ⟨c25, H⟩ | ⟨c25, H⟩ := Xiu H
     ·have c25b0 : decide (((rd_T113 l0_2 x24_2).f0) ≤ ((rd_T113 l0_2 (ji22)).f0)) = true := decide_eq_true c25
      clear c25
      have H' := Am H
      clear H
      have hnb26 := NB479_475.out
      have hnc26 := NB475_479.out
      obtain ⟨Z27_0, Z27_1, Z27_2, Z27_3, Z27_4⟩ := Xc5 B479
      obtain ⟨F27_0, F27_1, F27_2, F27_3, F27_4⟩ := Xf5 B479
      obtain ⟨Z28_0, Z28_1, Z28_2⟩ := Xc3 B475
      obtain ⟨F28_0, F28_1, F28_2⟩ := Xf3 B475
      obtain ⟨ad481, A481_4, c481_4, e481, p481, q481, hx481_0, hx481_1, hx481_2, hx481_3, hx481_4, HC481_4, HR481_4⟩ := at_B113 HR0_2 (ji22) Xa Xa HB
      obtain rfl : ad478 = ad481 := (by injection e481)
      (try go_wp2)
      repeat (go_quiet (first | (go_at_call 124; (with_reducible refine (impl_within.calls ((rd_T113 l0_2 x24_2).f0) 1 (wrap64 (a0_1 - 1)) true _ A19.out).mono ?_); rintro e w' ⟨rfl, ⟨nd, rfl⟩⟩; (try exact Xdd))); try go_wp2)
      go_meet
      case rel => exact ⟨_, (true), Xr, H', ⟨by have := HJ1.out; have := HK2.out; first | omega | exact Nat.le_refl _⟩, B475, B479, ⟨Xi⟩⟩
     have c25b0 : decide (((rd_T113 l0_2 x24_2).f0) ≤ ((rd_T113 l0_2 (ji22)).f0)) = false := decide_eq_false c25
     clear c25
     obtain ⟨t482, A29, H⟩ := Xbi H
     try dsimp only at H
     by_cases c30 : t482 = true
     ·subst c30
      try rw [if_pos rfl] at H
      obtain ⟨t483, A31, H⟩ := Xbi H
      try dsimp only at H
      by_cases c32 : t483 = true
      ·subst c32
       try rw [if_pos rfl] at H
       obtain ⟨c33, H⟩ | ⟨c33, H⟩ := Xiu H
       ·have c33b0 : decide (20 < (((rd_T113 l0_2 x24_2).f3).size : Int)) = true := decide_eq_true c33
        have c33b1 : decide (20 < ((rd_T113 l0_2 x24_2).f3).size) = true := decide_eq_true (by omega)
        clear c33
        have H' := Am H
        clear H
        have hnb34 := NB479_475.out
        have hnc34 := NB475_479.out
        obtain ⟨Z35_0, Z35_1, Z35_2, Z35_3, Z35_4⟩ := Xc5 B479
        obtain ⟨F35_0, F35_1, F35_2, F35_3, F35_4⟩ := Xf5 B479
        obtain ⟨Z36_0, Z36_1, Z36_2⟩ := Xc3 B475
        obtain ⟨F36_0, F36_1, F36_2⟩ := Xf3 B475
        obtain ⟨ad481, A481_4, c481_4, e481, p481, q481, hx481_0, hx481_1, hx481_2, hx481_3, hx481_4, HC481_4, HR481_4⟩ := at_B113 HR0_2 (ji22) Xa Xa HB
        obtain rfl : ad478 = ad481 := (by injection e481)
        (try go_wp2)
        repeat (go_quiet (first | (go_at_call 124; (with_reducible refine (impl_within.calls ((rd_T113 l0_2 x24_2).f0) 1 (wrap64 (a0_1 - 1)) true _ A19.out).mono ?_); rintro e w' ⟨rfl, ⟨nd, rfl⟩⟩; (try exact Xdd)) | (go_at_call 124; (with_reducible refine (impl_within.calls ((rd_T113 l0_2 x24_2).f1) 1 8 true _ A29.out).mono ?_); rintro e w' ⟨rfl, ⟨nd, rfl⟩⟩; (try exact Xdd)) | (go_at_call 124; (with_reducible refine (impl_within.calls ((rd_T113 l0_2 x24_2).f2) 0 99 true _ A31.out).mono ?_); rintro e w' ⟨rfl, ⟨nd, rfl⟩⟩; (try exact Xdd))); try go_wp2)
        go_meet
        case rel => exact ⟨_, (true), Xr, H', ⟨by have := HJ1.out; have := HK2.out; first | omega | exact Nat.le_refl _⟩, B475, B479, ⟨Xi⟩⟩
       have c33b0 : decide (20 < (((rd_T113 l0_2 x24_2).f3).size : Int)) = false := decide_eq_false c33
       have c33b1 : decide (20 < ((rd_T113 l0_2 x24_2).f3).size) = false := decide_eq_false (by omega)
       clear c33
       have H' := Am H
       clear H
       have hnb37 := NB479_475.out
       have hnc37 := NB475_479.out
       obtain ⟨Z38_0, Z38_1, Z38_2, Z38_3, Z38_4⟩ := Xc5 B479
       obtain ⟨F38_0, F38_1, F38_2, F38_3, F38_4⟩ := Xf5 B479
       obtain ⟨Z39_0, Z39_1, Z39_2⟩ := Xc3 B475
       obtain ⟨F39_0, F39_1, F39_2⟩ := Xf3 B475
       obtain ⟨ad481, A481_4, c481_4, e481, p481, q481, hx481_0, hx481_1, hx481_2, hx481_3, hx481_4, HC481_4, HR481_4⟩ := at_B113 HR0_2 (ji22) Xa Xa HB
       obtain rfl : ad478 = ad481 := (by injection e481)
       (try go_wp2)
       repeat (go_quiet (first | (go_at_call 124; (with_reducible refine (impl_within.calls ((rd_T113 l0_2 x24_2).f0) 1 (wrap64 (a0_1 - 1)) true _ A19.out).mono ?_); rintro e w' ⟨rfl, ⟨nd, rfl⟩⟩; (try exact Xdd)) | (go_at_call 124; (with_reducible refine (impl_within.calls ((rd_T113 l0_2 x24_2).f1) 1 8 true _ A29.out).mono ?_); rintro e w' ⟨rfl, ⟨nd, rfl⟩⟩; (try exact Xdd)) | (go_at_call 124; (with_reducible refine (impl_within.calls ((rd_T113 l0_2 x24_2).f2) 0 99 true _ A31.out).mono ?_); rintro e w' ⟨rfl, ⟨nd, rfl⟩⟩; (try exact Xdd))); try go_wp2)
       go_meet
       case rel => exact ⟨_, (decide ((((rd_T113 l0_2 x24_2).f4).length : Int) > 12)), Xr, H', ⟨by have := HJ1.out; have := HK2.out; first | omega | exact Nat.le_refl _⟩, B475, B479, ⟨Xi⟩⟩
      replace c32 := Xbf c32
      subst c32
      try rw [if_neg Xft] at H
      have H' := Am H
      clear H
      have hnb40 := NB479_475.out
      have hnc40 := NB475_479.out
      obtain ⟨Z41_0, Z41_1, Z41_2, Z41_3, Z41_4⟩ := Xc5 B479
      obtain ⟨F41_0, F41_1, F41_2, F41_3, F41_4⟩ := Xf5 B479
      obtain ⟨Z42_0, Z42_1, Z42_2⟩ := Xc3 B475
      obtain ⟨F42_0, F42_1, F42_2⟩ := Xf3 B475
      obtain ⟨ad481, A481_4, c481_4, e481, p481, q481, hx481_0, hx481_1, hx481_2, hx481_3, hx481_4, HC481_4, HR481_4⟩ := at_B113 HR0_2 (ji22) Xa Xa HB
      obtain rfl : ad478 = ad481 := (by injection e481)
      (try go_wp2)
      repeat (go_quiet (first | (go_at_call 124; (with_reducible refine (impl_within.calls ((rd_T113 l0_2 x24_2).f0) 1 (wrap64 (a0_1 - 1)) true _ A19.out).mono ?_); rintro e w' ⟨rfl, ⟨nd, rfl⟩⟩; (try exact Xdd)) | (go_at_call 124; (with_reducible refine (impl_within.calls ((rd_T113 l0_2 x24_2).f1) 1 8 true _ A29.out).mono ?_); rintro e w' ⟨rfl, ⟨nd, rfl⟩⟩; (try exact Xdd)) | (go_at_call 124; (with_reducible refine (impl_within.calls ((rd_T113 l0_2 x24_2).f2) 0 99 false _ A31.out).mono ?_); rintro e w' ⟨rfl, ⟨nd, rfl⟩⟩; (try exact Xdd))); try go_wp2)
      go_meet
      case rel => exact ⟨_, (true), Xr, H', ⟨by have := HJ1.out; have := HK2.out; first | omega | exact Nat.le_refl _⟩, B475, B479, ⟨Xi⟩⟩
     replace c30 := Xbf c30
     subst c30
     try rw [if_neg Xft] at H
     have H' := Am H
     clear H
     have hnb43 := NB479_475.out
     have hnc43 := NB475_479.out
     obtain ⟨Z44_0, Z44_1, Z44_2, Z44_3, Z44_4⟩ := Xc5 B479
     obtain ⟨F44_0, F44_1, F44_2, F44_3, F44_4⟩ := Xf5 B479
     obtain ⟨Z45_0, Z45_1, Z45_2⟩ := Xc3 B475
     obtain ⟨F45_0, F45_1, F45_2⟩ := Xf3 B475
     obtain ⟨ad481, A481_4, c481_4, e481, p481, q481, hx481_0, hx481_1, hx481_2, hx481_3, hx481_4, HC481_4, HR481_4⟩ := at_B113 HR0_2 (ji22) Xa Xa HB
     obtain rfl : ad478 = ad481 := (by injection e481)
     (try go_wp2)
     repeat (go_quiet (first | (go_at_call 124; (with_reducible refine (impl_within.calls ((rd_T113 l0_2 x24_2).f0) 1 (wrap64 (a0_1 - 1)) true _ A19.out).mono ?_); rintro e w' ⟨rfl, ⟨nd, rfl⟩⟩; (try exact Xdd)) | (go_at_call 124; (with_reducible refine (impl_within.calls ((rd_T113 l0_2 x24_2).f1) 1 8 false _ A29.out).mono ?_); rintro e w' ⟨rfl, ⟨nd, rfl⟩⟩; (try exact Xdd))); try go_wp2)
     go_meet
     case rel => exact ⟨_, (true), Xr, H', ⟨by have := HJ1.out; have := HK2.out; first | omega | exact Nat.le_refl _⟩, B475, B479, ⟨Xi⟩⟩
    have c21b0 : decide (0 < x24_2) = false := decide_eq_false c21
    clear c21
    (first | rw [c21b0] | (simp only [i64_w, i32_w]; rw [c21b0]) | skip)
    obtain ⟨t484, A46, H⟩ := Xbi H
    try dsimp only at H
    by_cases c47 : t484 = true
    ·subst c47
     try rw [if_pos rfl] at H
     obtain ⟨t485, A48, H⟩ := Xbi H
     try dsimp only at H
     by_cases c49 : t485 = true
     ·subst c49
      try rw [if_pos rfl] at H
      obtain ⟨c50, H⟩ | ⟨c50, H⟩ := Xiu H
      ·have c50b0 : decide (20 < (((rd_T113 l0_2 x24_2).f3).size : Int)) = true := decide_eq_true c50
       have c50b1 : decide (20 < ((rd_T113 l0_2 x24_2).f3).size) = true := decide_eq_true (by omega)
       clear c50
       have H' := Am H
       clear H
       have hnb51 := NB479_475.out
       have hnc51 := NB475_479.out
       obtain ⟨Z52_0, Z52_1, Z52_2, Z52_3, Z52_4⟩ := Xc5 B479
       obtain ⟨F52_0, F52_1, F52_2, F52_3, F52_4⟩ := Xf5 B479
       obtain ⟨Z53_0, Z53_1, Z53_2⟩ := Xc3 B475
       obtain ⟨F53_0, F53_1, F53_2⟩ := Xf3 B475
       (try go_wp2)
       repeat (go_quiet (first | (go_at_call 124; (with_reducible refine (impl_within.calls ((rd_T113 l0_2 x24_2).f0) 1 (wrap64 (a0_1 - 1)) true _ A19.out).mono ?_); rintro e w' ⟨rfl, ⟨nd, rfl⟩⟩; (try exact Xdd)) | (go_at_call 124; (with_reducible refine (impl_within.calls ((rd_T113 l0_2 x24_2).f1) 1 8 true _ A46.out).mono ?_); rintro e w' ⟨rfl, ⟨nd, rfl⟩⟩; (try exact Xdd)) | (go_at_call 124; (with_reducible refine (impl_within.calls ((rd_T113 l0_2 x24_2).f2) 0 99 true _ A48.out).mono ?_); rintro e w' ⟨rfl, ⟨nd, rfl⟩⟩; (try exact Xdd))); try go_wp2)
       go_meet
       case rel => exact ⟨_, (true), Xr, H', ⟨by have := HJ1.out; have := HK2.out; first | omega | exact Nat.le_refl _⟩, B475, B479, ⟨Xi⟩⟩
      have c50b0 : decide (20 < (((rd_T113 l0_2 x24_2).f3).size : Int)) = false := decide_eq_false c50
      have c50b1 : decide (20 < ((rd_T113 l0_2 x24_2).f3).size) = false := decide_eq_false (by omega)
      clear c50
      have H' := Am H
      clear H
      have hnb54 := NB479_475.out
      have hnc54 := NB475_479.out
      obtain ⟨Z55_0, Z55_1, Z55_2, Z55_3, Z55_4⟩ := Xc5 B479
      obtain ⟨F55_0, F55_1, F55_2, F55_3, F55_4⟩ := Xf5 B479
      obtain ⟨Z56_0, Z56_1, Z56_2⟩ := Xc3 B475
      obtain ⟨F56_0, F56_1, F56_2⟩ := Xf3 B475
      (try go_wp2)
      repeat (go_quiet (first | (go_at_call 124; (with_reducible refine (impl_within.calls ((rd_T113 l0_2 x24_2).f0) 1 (wrap64 (a0_1 - 1)) true _ A19.out).mono ?_); rintro e w' ⟨rfl, ⟨nd, rfl⟩⟩; (try exact Xdd)) | (go_at_call 124; (with_reducible refine (impl_within.calls ((rd_T113 l0_2 x24_2).f1) 1 8 true _ A46.out).mono ?_); rintro e w' ⟨rfl, ⟨nd, rfl⟩⟩; (try exact Xdd)) | (go_at_call 124; (with_reducible refine (impl_within.calls ((rd_T113 l0_2 x24_2).f2) 0 99 true _ A48.out).mono ?_); rintro e w' ⟨rfl, ⟨nd, rfl⟩⟩; (try exact Xdd))); try go_wp2)
      go_meet
      case rel => exact ⟨_, (decide ((((rd_T113 l0_2 x24_2).f4).length : Int) > 12)), Xr, H', ⟨by have := HJ1.out; have := HK2.out; first | omega | exact Nat.le_refl _⟩, B475, B479, ⟨Xi⟩⟩
     replace c49 := Xbf c49
     subst c49
     try rw [if_neg Xft] at H
     have H' := Am H
     clear H
     have hnb57 := NB479_475.out
     have hnc57 := NB475_479.out
     obtain ⟨Z58_0, Z58_1, Z58_2, Z58_3, Z58_4⟩ := Xc5 B479
     obtain ⟨F58_0, F58_1, F58_2, F58_3, F58_4⟩ := Xf5 B479
     obtain ⟨Z59_0, Z59_1, Z59_2⟩ := Xc3 B475
     obtain ⟨F59_0, F59_1, F59_2⟩ := Xf3 B475
     (try go_wp2)
     repeat (go_quiet (first | (go_at_call 124; (with_reducible refine (impl_within.calls ((rd_T113 l0_2 x24_2).f0) 1 (wrap64 (a0_1 - 1)) true _ A19.out).mono ?_); rintro e w' ⟨rfl, ⟨nd, rfl⟩⟩; (try exact Xdd)) | (go_at_call 124; (with_reducible refine (impl_within.calls ((rd_T113 l0_2 x24_2).f1) 1 8 true _ A46.out).mono ?_); rintro e w' ⟨rfl, ⟨nd, rfl⟩⟩; (try exact Xdd)) | (go_at_call 124; (with_reducible refine (impl_within.calls ((rd_T113 l0_2 x24_2).f2) 0 99 false _ A48.out).mono ?_); rintro e w' ⟨rfl, ⟨nd, rfl⟩⟩; (try exact Xdd))); try go_wp2)
     go_meet
     case rel => exact ⟨_, (true), Xr, H', ⟨by have := HJ1.out; have := HK2.out; first | omega | exact Nat.le_refl _⟩, B475, B479, ⟨Xi⟩⟩
    replace c47 := Xbf c47
    subst c47
    try rw [if_neg Xft] at H
    have H' := Am H
    clear H
    have hnb60 := NB479_475.out
    have hnc60 := NB475_479.out
    obtain ⟨Z61_0, Z61_1, Z61_2, Z61_3, Z61_4⟩ := Xc5 B479
    obtain ⟨F61_0, F61_1, F61_2, F61_3, F61_4⟩ := Xf5 B479
    obtain ⟨Z62_0, Z62_1, Z62_2⟩ := Xc3 B475
    obtain ⟨F62_0, F62_1, F62_2⟩ := Xf3 B475
    (try go_wp2)
    repeat (go_quiet (first | (go_at_call 124; (with_reducible refine (impl_within.calls ((rd_T113 l0_2 x24_2).f0) 1 (wrap64 (a0_1 - 1)) true _ A19.out).mono ?_); rintro e w' ⟨rfl, ⟨nd, rfl⟩⟩; (try exact Xdd)) | (go_at_call 124; (with_reducible refine (impl_within.calls ((rd_T113 l0_2 x24_2).f1) 1 8 false _ A46.out).mono ?_); rintro e w' ⟨rfl, ⟨nd, rfl⟩⟩; (try exact Xdd))); try go_wp2)
    go_meet
    case rel => exact ⟨_, (true), Xr, H', ⟨by have := HJ1.out; have := HK2.out; first | omega | exact Nat.le_refl _⟩, B475, B479, ⟨Xi⟩⟩
   replace c20 := Xbf c20
   subst c20
   try rw [if_neg Xft] at H
   have H' := Am H
   clear H
   have hnb63 := NB479_475.out
   have hnc63 := NB475_479.out
   obtain ⟨Z64_0, Z64_1, Z64_2, Z64_3, Z64_4⟩ := Xc5 B479
   obtain ⟨F64_0, F64_1, F64_2, F64_3, F64_4⟩ := Xf5 B479
   obtain ⟨Z65_0, Z65_1, Z65_2⟩ := Xc3 B475
   obtain ⟨F65_0, F65_1, F65_2⟩ := Xf3 B475
   (try go_wp2)
   repeat (go_quiet (first | (go_at_call 124; (with_reducible refine (impl_within.calls ((rd_T113 l0_2 x24_2).f0) 1 (wrap64 (a0_1 - 1)) false _ A19.out).mono ?_); rintro e w' ⟨rfl, ⟨nd, rfl⟩⟩; (try exact Xdd))); try go_wp2)
   go_meet
   case rel => exact ⟨_, (true), Xr, H', ⟨by have := HJ1.out; have := HK2.out; first | omega | exact Nat.le_refl _⟩, B475, B479, ⟨Xi⟩⟩
  clear HC14
  (try clear c9); (try clear c11); (try clear c11b0); (try clear c12); (try clear c12b0); (try clear c13); (try clear c13b0); (try clear Z10_0); (try clear Z10_1); (try clear Z10_2); (try clear Z17_0); (try clear Z17_1); (try clear Z17_2); (try clear Z17_3); (try clear Z17_4); (try clear F10_0); (try clear F10_1); (try clear F10_2); (try clear F17_0); (try clear F17_1); (try clear F17_2); (try clear F17_3); (try clear F17_4); (try clear hx478_0); (try clear hx478_1); (try clear hx478_2); (try clear hx478_3); (try clear hx478_4); (try clear p478); (try clear q478)
  obtain ⟨kq, x75_13, rfl, HA, HJ13, B475, B479, HB⟩ := hcut
  cases kq with | zero => cases HA.out | succ kj13 => ?_
  have H := HA.out
  clear HA
  simp only [impl_DocOK.j2] at H
  by_cases c66 : x75_13 = true
  ·subst c66
   try rw [if_pos rfl] at H
   obtain rfl := Xsi H
   go_wp2
   go_ret
   exact ⟨Xe, Xi⟩
  replace c66 := Xbf c66
  subst c66
  try rw [if_neg Xft] at H
  have H' := Am H
  clear H
  go_wp2
  go_roundg kj13
  case measure => have := HJ1.out; have := HK2.out; have := HJ13.out; omega
  case rel => exact ⟨(wrap64 (x24_2 + 1)), Xr, H', ⟨by have := HJ1.out; have := HK2.out; have := HJ13.out; omega⟩, B475, ⟨Xi⟩⟩
 have H' := Am H
 clear H
 go_wp2_with (first | ((with_reducible refine gate_dst (N := 77) rfl ?_); (try (refine gate_guard (by rfl) ?_; dsimp only)); refine XM.make_event Value.bool ?hg (N := 77) ?hd 134 ?hr ?_; (case hd => rfl); (case hg => rfl); (case hr => rfl); intro gb486 hg w67 hbox hb; have B486 := Am (hbox); have GE486 := Xge hg Xi; replace HB := Xhb hb; have NB475_486 := Xnb hg B475; have NB486_475 := Xns NB475_486; replace B475 := Xbb B475 hb; clear hb hbox hg; have hnb68 := NB475_486.out; have hnc68 := NB486_475.out; obtain ⟨Z69_0, Z69_1, Z69_2⟩ := Xc3 B475; obtain ⟨F69_0, F69_1, F69_2⟩ := Xf3 B475))
 go_loopg [81] k2 (fun kq v81 w' => ∃ (x81_3 : Int) (x487000_3 : List (Int × Bool)), v81 = .int .i64 x81_3 ∧ Aside0 (impl_DocOK.l1 kq l0_2 (l0_2.length : Int) x81_3 a0_0 a0_1 l0_2 x487000_3 = some r) ∧ Aside0 (kq ≤ k2) ∧ Aside0 (w'.heap[gb475]? = some (.cells #[.int .i64 a0_0, .int .i64 a0_1, (.slice A0_2 l0_2.length c0_2)] 35 (0, 0))) ∧ Aside0 (w'.heap[gb486]? = some (XM.mapObj Value.bool x487000_3)) ∧ Aside0 (Below w.heap.size w w'))
 case atStart => exact ⟨(0), (([] : List (Int × Bool))), Xr, H', Xkr, B475, B486, ⟨Xi⟩⟩
 clear H'
 (try clear c9); (try clear c11); (try clear c11b0); (try clear Z10_0); (try clear Z10_1); (try clear Z10_2); (try clear Z69_0); (try clear Z69_1); (try clear Z69_2); (try clear F10_0); (try clear F10_1); (try clear F10_2); (try clear F69_0); (try clear F69_1); (try clear F69_2)
 obtain ⟨x81_3, x487000_3, rfl, HA, HK3, B475, B486, HB⟩ := hrel
 cases gk with | zero => cases HA.out | succ k3 => ?_
 have H := HA.out
 clear HA
 simp only [impl_DocOK.l1] at H
 obtain ⟨c70b0, H⟩ | ⟨c70b0, H⟩ := Xit H
 ·obtain ⟨c71b0, H⟩ := Xid H
  obtain ⟨c72b0, H⟩ := Xid H
  have H' := Am H
  clear H
  obtain ⟨ad487, A487_4, c487_4, e487, p487, q487, hx487_0, hx487_1, hx487_2, hx487_3, hx487_4, HC487_4, HR487_4⟩ := at_B113 HR0_2 x81_3 Xa Xa HB
  cases e487
  go_wp2_with (first | ((with_reducible refine gate_dst (N := 7) rfl ?_); (try (refine gate_guard (by rfl) ?_; dsimp only)); refine Xbx 7 #[.int .i64 0, .int .i64 0, .int .i64 0, .string (⟨#[]⟩ : ByteArray), .slice none 0 0] 113 ?_; intro gb488 hg w73 B488 GE488 hb; replace HB := Xhb hb; have NB475_488 := Xnb hg B475; have NB488_475 := Xns NB475_488; replace B475 := Xbb B475 hb; have NB486_488 := Xnb hg B486; have NB488_486 := Xns NB486_488; replace B486 := Xbb B486 hb; clear hb hg; have hnb74 := NB488_475.out; have hnc74 := NB475_488.out; have hnb75 := NB488_486.out; have hnc75 := NB486_488.out; obtain ⟨Z76_0, Z76_1, Z76_2, Z76_3, Z76_4⟩ := Xc5 B488; obtain ⟨F76_0, F76_1, F76_2, F76_3, F76_4⟩ := Xf5 B488) | ((with_reducible refine gate_store (t := 113) (p := 7) rfl ?_); refine store_event (t := 113) (p := 7) (v := ?vo_w77) (w1 := (((((w73.setCell ⟨gb488, 0, none⟩ (.int .i64 ((rd_T113 l0_2 x81_3).f0))).setCell ⟨gb488, 1, none⟩ (.int .i64 ((rd_T113 l0_2 x81_3).f1))).setCell ⟨gb488, 2, none⟩ (.int .i64 ((rd_T113 l0_2 x81_3).f2))).setCell ⟨gb488, 3, none⟩ (.string ((rd_T113 l0_2 x81_3).f3))).setCell ⟨gb488, 4, none⟩ (.slice A487_4 ((rd_T113 l0_2 x81_3).f4).length c487_4))) ?hg ?ho ?hn ?hr ?_; (case ho => rfl); (case hg => rfl); (case hn => rfl); (case hr => first | (go_simp; done) | (go_simp; rfl)); intro w77 hw; have n0_ : Aside0 (w77.heap[gb475]? = some (.cells #[.int .i64 a0_0, .int .i64 a0_1, .slice (some ad487) l0_2.length c0_2] 35 (0, 0))) := ⟨(by rw [hw]; exact (by refine Xu ?_; refine blk_far ?_ NB475_488.out _; refine Xu ?_; refine blk_far ?_ NB475_488.out _; refine Xu ?_; refine blk_far ?_ NB475_488.out _; refine Xu ?_; refine blk_far ?_ NB475_488.out _; refine Xu ?_; refine blk_far ?_ NB475_488.out _; refine Xu ?_; exact B475.out))⟩; have n1_ : Aside0 (w77.heap[gb486]? = some (XM.mapObj Value.bool x487000_3)) := ⟨(by rw [hw]; exact (by refine Xu ?_; refine XM.blk_far ?_ NB486_488.out _; refine Xu ?_; refine XM.blk_far ?_ NB486_488.out _; refine Xu ?_; refine XM.blk_far ?_ NB486_488.out _; refine Xu ?_; refine XM.blk_far ?_ NB486_488.out _; refine Xu ?_; refine XM.blk_far ?_ NB486_488.out _; refine Xu ?_; exact B486.out))⟩; have n2_ : Aside0 (w77.heap[gb488]? = some (.cells #[.int .i64 ((rd_T113 l0_2 x81_3).f0), .int .i64 ((rd_T113 l0_2 x81_3).f1), .int .i64 ((rd_T113 l0_2 x81_3).f2), .string ((rd_T113 l0_2 x81_3).f3), .slice A487_4 ((rd_T113 l0_2 x81_3).f4).length c487_4] 113 (0, 0))) := ⟨(by rw [hw]; exact (by refine Xu ?_; refine blk_put (cs := #[.int .i64 ((rd_T113 l0_2 x81_3).f0), .int .i64 ((rd_T113 l0_2 x81_3).f1), .int .i64 ((rd_T113 l0_2 x81_3).f2), .string ((rd_T113 l0_2 x81_3).f3), .slice none 0 0]) ?_ 4 _ rfl; refine Xu ?_; refine blk_put (cs := #[.int .i64 ((rd_T113 l0_2 x81_3).f0), .int .i64 ((rd_T113 l0_2 x81_3).f1), .int .i64 ((rd_T113 l0_2 x81_3).f2), .string (⟨#[]⟩ : ByteArray), .slice none 0 0]) ?_ 3 _ rfl; refine Xu ?_; refine blk_put (cs := #[.int .i64 ((rd_T113 l0_2 x81_3).f0), .int .i64 ((rd_T113 l0_2 x81_3).f1), .int .i64 0, .string (⟨#[]⟩ : ByteArray), .slice none 0 0]) ?_ 2 _ rfl; refine Xu ?_; refine blk_put (cs := #[.int .i64 ((rd_T113 l0_2 x81_3).f0), .int .i64 0, .int .i64 0, .string (⟨#[]⟩ : ByteArray), .slice none 0 0]) ?_ 1 _ rfl; refine Xu ?_; refine blk_put (cs := #[.int .i64 0, .int .i64 0, .int .i64 0, .string (⟨#[]⟩ : ByteArray), .slice none 0 0]) ?_ 0 _ rfl; refine Xu ?_; exact B488.out))⟩; have n3_ : Aside0 (Below w.heap.size w w77) := ⟨(by rw [hw]; exact Xi)⟩; clear hw; clear B475; clear B486; clear B488; clear HB; have B475 := n0_; have B486 := n1_; have B488 := n2_; have HB := n3_; clear n0_ n1_ n2_ n3_; obtain ⟨Z78_0, Z78_1, Z78_2, Z78_3, Z78_4⟩ := Xc5 B488; obtain ⟨F78_0, F78_1, F78_2, F78_3, F78_4⟩ := Xf5 B488))
  go_loopg [88] k3 (fun kq v88 w' => ∃ (x88_4 : Int) (x487000_4 : List (Int × Bool)), v88 = .int .i64 x88_4 ∧ Aside0 (impl_DocOK.l2 kq l0_2 (l0_2.length : Int) x81_3 ((rd_T113 l0_2 x81_3).f4) (((rd_T113 l0_2 x81_3).f4).length : Int) x88_4 a0_0 a0_1 l0_2 x487000_4 = some r) ∧ Aside0 (kq ≤ k3) ∧ Aside0 (w'.heap[gb475]? = some (.cells #[.int .i64 a0_0, .int .i64 a0_1, (.slice (some ad487) l0_2.length c0_2)] 35 (0, 0))) ∧ Aside0 (w'.heap[gb486]? = some (XM.mapObj Value.bool x487000_4)) ∧ Aside0 (w'.heap[gb488]? = some (.cells #[.int .i64 ((rd_T113 l0_2 x81_3).f0), .int .i64 ((rd_T113 l0_2 x81_3).f1), .int .i64 ((rd_T113 l0_2 x81_3).f2), .string ((rd_T113 l0_2 x81_3).f3), (.slice A487_4 ((rd_T113 l0_2 x81_3).f4).length c487_4)] 113 (0, 0))) ∧ Aside0 (Below w.heap.size w w'))
  case atStart => exact ⟨(0), (x487000_3), Xr, H', Xkr, B475, B486, B488, ⟨Xi⟩⟩
  clear H'
  (try clear c9); (try clear c11); (try clear c11b0); (try clear c70); (try clear c70b0); (try clear c71); (try clear c71b0); (try clear c72); (try clear c72b0); (try clear Z10_0); (try clear Z10_1); (try clear Z10_2); (try clear Z69_0); (try clear Z69_1); (try clear Z69_2); (try clear Z76_0); (try clear Z76_1); (try clear Z76_2); (try clear Z76_3); (try clear Z76_4); (try clear Z78_0); (try clear Z78_1); (try clear Z78_2); (try clear Z78_3); (try clear Z78_4); (try clear F10_0); (try clear F10_1); (try clear F10_2); (try clear F69_0); (try clear F69_1); (try clear F69_2); (try clear F76_0); (try clear F76_1); (try clear F76_2); (try clear F76_3); (try clear F76_4); (try clear F78_0); (try clear F78_1); (try clear F78_2); (try clear F78_3); (try clear F78_4); (try clear hx487_0); (try clear hx487_1); (try clear hx487_2); (try clear hx487_3); (try clear hx487_4); (try clear p487); (try clear q487)
  obtain ⟨x88_4, x487000_4, rfl, HA, HK4, B475, B486, B488, HB⟩ := hrel
  cases gk with | zero => cases HA.out | succ k4 => ?_
  have H := HA.out
  clear HA
  simp only [impl_DocOK.l2] at H
  obtain ⟨c79b0, H⟩ | ⟨c79b0, H⟩ := Xit H
  ·obtain ⟨c80b0, H⟩ := Xid H
   obtain ⟨c81b0, H⟩ := Xid H
   have HC82 := Am H
   clear H
   have p489 : 0 ≤ (x88_4 : Int) := Xo
   have q489 : x88_4 < (((rd_T113 l0_2 x81_3).f4).length : Int) := Xo
   obtain ⟨ad489, e489, hx489_0⟩ := Kd.at_int HR487_4.out x88_4 p489 q489
   cases e489
   replace hx489_0 := Xm HB hx489_0
   replace p489 := eq_true p489
   replace q489 := eq_true q489
   go_upto_region 16 with (fail)
   go_cut [105] (fun v105 wc => ∃ (kq : Nat) (x105_81 : Bool), v105 = .bool x105_81 ∧ Aside0 (impl_DocOK.j5 kq (rd ((rd_T113 l0_2 x81_3).f4) x88_4) l0_2 (l0_2.length : Int) x81_3 ((rd_T113 l0_2 x81_3).f4) (((rd_T113 l0_2 x81_3).f4).length : Int) x88_4 x105_81 a0_0 a0_1 l0_2 x487000_4 = some r) ∧ Aside0 (kq ≤ k4) ∧ Aside0 (wc.heap[gb475]? = some (.cells #[.int .i64 a0_0, .int .i64 a0_1, (.slice (some ad487) l0_2.length c0_2)] 35 (0, 0))) ∧ Aside0 (wc.heap[gb486]? = some (XM.mapObj Value.bool x487000_4)) ∧ Aside0 (wc.heap[gb488]? = some (.cells #[.int .i64 ((rd_T113 l0_2 x81_3).f0), .int .i64 ((rd_T113 l0_2 x81_3).f1), .int .i64 ((rd_T113 l0_2 x81_3).f2), .string ((rd_T113 l0_2 x81_3).f3), (.slice (some ad489) ((rd_T113 l0_2 x81_3).f4).length c487_4)] 113 (0, 0))) ∧ Aside0 (Below w.heap.size w wc))
   case first =>
    have H := HC82.out
    clear HC82
    obtain ⟨c83, H⟩ | ⟨c83, H⟩ := Xiu H
    ·have c83b0 : XM.get false x487000_4 (rd ((rd_T113 l0_2 x81_3).f4) x88_4) = true := c83
     clear c83
     (first | rw [c83b0] | (simp only [i64_w, i32_w]; rw [c83b0]) | skip)
     have H' := Am H
     clear H
     go_wp2_with (first | ((with_reducible refine gate_dst (N := 94) rfl ?_); (try (refine gate_guard (by rfl) ?_; dsimp only)); refine XM.lookup_event (enc := Value.bool) rfl (N := 94) rfl 134 _ _ rfl false (rd ((rd_T113 l0_2 x81_3).f4) x88_4) (g := gb486) (xs := x487000_4) rfl rfl (by first | (exact B486.out)) Tryz.underlying134 Tryz.underlying3 (by first | rfl | (go_simp; done) | (go_simp; rfl)) ?_))
     go_meet
     case rel => exact ⟨_, (true), Xr, H', ⟨by have := HJ1.out; have := HK2.out; have := HK3.out; have := HK4.out; first | omega | exact Nat.le_refl _⟩, B475, B486, B488, ⟨Xi⟩⟩
    have c83b0 : XM.get false x487000_4 (rd ((rd_T113 l0_2 x81_3).f4) x88_4) = false := by simpa using c83
    clear c83
    (first | rw [c83b0] | (simp only [i64_w, i32_w]; rw [c83b0]) | skip)
    obtain ⟨c84, H⟩ | ⟨c84, H⟩ := Xiu H
    ·have c84b0 : ((rd ((rd_T113 l0_2 x81_3).f4) x88_4) == a0_0) = true := beq_iff_eq.mpr c84
     have c84b1 : ((rd ((rd_T113 l0_2 x81_3).f4) x88_4) != a0_0) = false := bne_eq_false_iff_eq.mpr c84
     clear c84
     have H' := Am H
     clear H
     have hnb85 := NB475_486.out
     have hnc85 := NB486_475.out
     have hnb86 := NB475_488.out
     have hnc86 := NB488_475.out
     obtain ⟨Z87_0, Z87_1, Z87_2⟩ := Xc3 B475
     obtain ⟨F87_0, F87_1, F87_2⟩ := Xf3 B475
     go_wp2_with (first | ((with_reducible refine gate_dst (N := 94) rfl ?_); (try (refine gate_guard (by rfl) ?_; dsimp only)); refine XM.lookup_event (enc := Value.bool) rfl (N := 94) rfl 134 _ _ rfl false (rd ((rd_T113 l0_2 x81_3).f4) x88_4) (g := gb486) (xs := x487000_4) rfl rfl (by first | (exact B486.out)) Tryz.underlying134 Tryz.underlying3 (by first | rfl | (go_simp; done) | (go_simp; rfl)) ?_))
     go_meet
     case rel => exact ⟨_, (true), Xr, H', ⟨by have := HJ1.out; have := HK2.out; have := HK3.out; have := HK4.out; first | omega | exact Nat.le_refl _⟩, B475, B486, B488, ⟨Xi⟩⟩
    have c84b0 : ((rd ((rd_T113 l0_2 x81_3).f4) x88_4) == a0_0) = false := beq_eq_false_iff_ne.mpr c84
    have c84b1 : ((rd ((rd_T113 l0_2 x81_3).f4) x88_4) != a0_0) = true := bne_iff_ne.mpr c84
    obtain ⟨t490, A88, H⟩ := Xbi H
    try dsimp only at H
    have H' := Am H
    clear H
    have hnb89 := NB475_486.out
    have hnc89 := NB486_475.out
    have hnb90 := NB475_488.out
    have hnc90 := NB488_475.out
    obtain ⟨Z91_0, Z91_1, Z91_2⟩ := Xc3 B475
    obtain ⟨F91_0, F91_1, F91_2⟩ := Xf3 B475
    go_wp2_with (first | ((with_reducible refine gate_dst (N := 94) rfl ?_); (try (refine gate_guard (by rfl) ?_; dsimp only)); refine XM.lookup_event (enc := Value.bool) rfl (N := 94) rfl 134 _ _ rfl false (rd ((rd_T113 l0_2 x81_3).f4) x88_4) (g := gb486) (xs := x487000_4) rfl rfl (by first | (exact B486.out)) Tryz.underlying134 Tryz.underlying3 (by first | rfl | (go_simp; done) | (go_simp; rfl)) ?_) | (go_at_call 125; (with_reducible refine (impl_Doc_has.calls k4 gb475 a0_0 a0_1 (some ad487) c0_2 l0_2 (rd ((rd_T113 l0_2 x81_3).f4) x88_4) t490 _ ?s1 ?s2 ?s3 A88.out).mono ?_); (case s1 => exact B475.out); (case s2 => exact Xc HR0_2); (case s3 => exact HC0_2.out); rintro e w92 ⟨rfl, hb⟩; replace B475 := Xbb B475 hb; replace B486 := Xbb B486 hb; replace B488 := Xbb B488 hb; replace HB := Xhb hb; clear hb))
    go_meet
    case rel => exact ⟨_, (!t490), Xr, H', ⟨by have := HJ1.out; have := HK2.out; have := HK3.out; have := HK4.out; first | omega | exact Nat.le_refl _⟩, B475, B486, B488, ⟨Xi⟩⟩
   clear HC82
   (try clear c9); (try clear c11); (try clear c11b0); (try clear c70); (try clear c70b0); (try clear c71); (try clear c71b0); (try clear c72); (try clear c72b0); (try clear c79); (try clear c79b0); (try clear c80); (try clear c80b0); (try clear c81); (try clear c81b0); (try clear Z10_0); (try clear Z10_1); (try clear Z10_2); (try clear Z69_0); (try clear Z69_1); (try clear Z69_2); (try clear Z76_0); (try clear Z76_1); (try clear Z76_2); (try clear Z76_3); (try clear Z76_4); (try clear Z78_0); (try clear Z78_1); (try clear Z78_2); (try clear Z78_3); (try clear Z78_4); (try clear F10_0); (try clear F10_1); (try clear F10_2); (try clear F69_0); (try clear F69_1); (try clear F69_2); (try clear F76_0); (try clear F76_1); (try clear F76_2); (try clear F76_3); (try clear F76_4); (try clear F78_0); (try clear F78_1); (try clear F78_2); (try clear F78_3); (try clear F78_4); (try clear hx487_0); (try clear hx487_1); (try clear hx487_2); (try clear hx487_3); (try clear hx487_4); (try clear hx489_0); (try clear p487); (try clear p489); (try clear q487); (try clear q489)
   obtain ⟨kq, x105_81, rfl, HA, HJ81, B475, B486, B488, HB⟩ := hcut
   cases kq with | zero => cases HA.out | succ kj81 => ?_
   have H := HA.out
   clear HA
   simp only [impl_DocOK.j5] at H
   by_cases c93 : x105_81 = true
   ·subst c93
    try rw [if_pos rfl] at H
    obtain rfl := Xsi H
    go_wp2
    go_ret
    exact ⟨Xe, Xi⟩
   replace c93 := Xbf c93
   subst c93
   try rw [if_neg Xft] at H
   have H' := Am H
   clear H
   go_wp2_with (first | ((with_reducible refine XM.gate_update (t := 134) rfl ?_); refine XM.update_event (enc := Value.bool) rfl rfl 134 _ _ _ rfl (rd ((rd_T113 l0_2 x81_3).f4) x88_4) true (g := gb486) (xs := x487000_4) rfl rfl rfl (by first | (exact B486.out)) Tryz.underlying134 Tryz.underlying3 ?_; intro w94 hbox hg; replace B475 := Am (blk_grown (g := gb475) (o := .cells #[.int .i64 a0_0, .int .i64 a0_1, .slice (some ad487) l0_2.length c0_2] 35 (0, 0)) B475.out hg (fun e_ => NB475_486.out (Option.some.inj e_))); replace B486 := Am (hbox); replace B488 := Am (blk_grown (g := gb488) (o := .cells #[.int .i64 ((rd_T113 l0_2 x81_3).f0), .int .i64 ((rd_T113 l0_2 x81_3).f1), .int .i64 ((rd_T113 l0_2 x81_3).f2), .string ((rd_T113 l0_2 x81_3).f3), .slice (some ad489) ((rd_T113 l0_2 x81_3).f4).length c487_4] 113 (0, 0)) B488.out hg (fun e_ => NB488_486.out (Option.some.inj e_))); replace HB := Am (Below.grown Xi hg HB.out.size (fun k_ e_ => Option.some.inj e_ ▸ GE486.out)); clear hbox hg))
   go_roundg kj81
   case measure => have := HJ1.out; have := HK2.out; have := HK3.out; have := HK4.out; have := HJ81.out; omega
   case rel => exact ⟨(wrap64 (x88_4 + 1)), (XM.put x487000_4 (rd ((rd_T113 l0_2 x81_3).f4) x88_4) true), Xr, H', ⟨by have := HJ1.out; have := HK2.out; have := HK3.out; have := HK4.out; have := HJ81.out; omega⟩, B475, B486, B488, ⟨Xi⟩⟩
  have H' := Am H
  clear H
  go_wp2
  go_roundg k4
  case measure => have := HJ1.out; have := HK2.out; have := HK3.out; have := HK4.out; omega
  case rel => exact ⟨(wrap64 (x81_3 + 1)), (x487000_4), Xr, H', ⟨by have := HJ1.out; have := HK2.out; have := HK3.out; have := HK4.out; omega⟩, B475, B486, ⟨Xi⟩⟩
 have HC95 := Am H
 clear H
 go_upto_region 21 with (fail)
 go_cut [125] (fun v125 wc => ∃ (kq : Nat) (x125_94 : Bool), v125 = .bool x125_94 ∧ Aside0 (impl_DocOK.j6 kq x125_94 a0_0 a0_1 l0_2 = some r) ∧ Aside0 (kq ≤ k3) ∧ Aside0 (wc.heap[gb475]? = some (.cells #[.int .i64 a0_0, .int .i64 a0_1, (.slice A0_2 l0_2.length c0_2)] 35 (0, 0))) ∧ Aside0 (wc.heap[gb486]? = some (XM.mapObj Value.bool x487000_3)) ∧ Aside0 (Below w.heap.size w wc))
 case first =>
  have H := HC95.out
  clear HC95
  obtain ⟨t491, A96, H⟩ := Xbi H
  try dsimp only at H
  by_cases c97 : t491 = true
  ·subst c97
   try rw [if_pos rfl] at H
   obtain ⟨c98, H⟩ | ⟨c98, H⟩ := Xiu H
   ·have c98b0 : ((x487000_3.length : Int) == (wrap64 ((l0_2.length : Int) - 1))) = true := beq_iff_eq.mpr c98
    have c98b1 : ((x487000_3.length : Int) != (wrap64 ((l0_2.length : Int) - 1))) = false := bne_eq_false_iff_eq.mpr c98
    clear c98
    (first | rw [c98b0] | (simp only [i64_w, i32_w]; rw [c98b0]) | skip)
    obtain ⟨t492, A99, H⟩ := Xbi H
    try dsimp only at H
    have H' := Am H
    clear H
    have hnb100 := NB475_486.out
    have hnc100 := NB486_475.out
    obtain ⟨Z101_0, Z101_1, Z101_2⟩ := Xc3 B475
    obtain ⟨F101_0, F101_1, F101_2⟩ := Xf3 B475
    go_wp2_with (first | ((with_reducible refine gate_callee (f := 125) rfl ?_); refine Xgo 112 Tryz.func125 #[.pointer (some ⟨gb475, 0, none⟩), .int .i64 a0_0] ?_; (with_reducible refine (impl_Doc_has.calls k3 gb475 a0_0 a0_1 A0_2 c0_2 l0_2 a0_0 true _ ?s1 ?s2 ?s3 A96.out).mono ?_); (case s1 => exact B475.out); (case s2 => exact Xc HR0_2); (case s3 => exact HC0_2.out); rintro e w102 ⟨rfl, hb⟩; refine ⟨_, rfl, ?_⟩; replace B475 := Xbb B475 hb; replace B486 := Xbb B486 hb; replace HB := Xhb hb; clear hb; obtain ⟨Z103_0, Z103_1, Z103_2⟩ := Xc3 B475; obtain ⟨F103_0, F103_1, F103_2⟩ := Xf3 B475) | ((with_reducible refine gate_dst (N := 116) rfl ?_); (try (refine gate_guard (by rfl) ?_; dsimp only)); refine XM.len_event (enc := Value.bool) rfl (N := 116) rfl 134 _ rfl (g := gb486) (xs := x487000_3) rfl (by first | (exact B486.out)) Tryz.underlying134 ?_) | (go_at_call 126; (with_reducible refine (impl_Doc_isDeep.calls k3 gb475 a0_0 a0_1 A0_2 c0_2 l0_2 t492 _ ?s1 ?s2 ?s3 A99.out).mono ?_); (case s1 => exact B475.out); (case s2 => exact Xc HR0_2); (case s3 => exact HC0_2.out); rintro e w104 ⟨rfl, hb⟩; replace B475 := Xbb B475 hb; replace B486 := Xbb B486 hb; replace HB := Xhb hb; clear hb))
    go_meet
    case rel => exact ⟨_, (t492), Xr, H', ⟨by have := HJ1.out; have := HK2.out; have := HK3.out; first | omega | exact Nat.le_refl _⟩, B475, B486, ⟨Xi⟩⟩
   have c98b0 : ((x487000_3.length : Int) == (wrap64 ((l0_2.length : Int) - 1))) = false := beq_eq_false_iff_ne.mpr c98
   have c98b1 : ((x487000_3.length : Int) != (wrap64 ((l0_2.length : Int) - 1))) = true := bne_iff_ne.mpr c98
   (first | rw [c98b0] | (simp only [i64_w, i32_w]; rw [c98b0]) | skip)
   have H' := Am H
   clear H
   have hnb105 := NB475_486.out
   have hnc105 := NB486_475.out
   obtain ⟨Z106_0, Z106_1, Z106_2⟩ := Xc3 B475
   obtain ⟨F106_0, F106_1, F106_2⟩ := Xf3 B475
   go_wp2_with (first | ((with_reducible refine gate_callee (f := 125) rfl ?_); refine Xgo 112 Tryz.func125 #[.pointer (some ⟨gb475, 0, none⟩), .int .i64 a0_0] ?_; (with_reducible refine (impl_Doc_has.calls k3 gb475 a0_0 a0_1 A0_2 c0_2 l0_2 a0_0 true _ ?s1 ?s2 ?s3 A96.out).mono ?_); (case s1 => exact B475.out); (case s2 => exact Xc HR0_2); (case s3 => exact HC0_2.out); rintro e w107 ⟨rfl, hb⟩; refine ⟨_, rfl, ?_⟩; replace B475 := Xbb B475 hb; replace B486 := Xbb B486 hb; replace HB := Xhb hb; clear hb; obtain ⟨Z108_0, Z108_1, Z108_2⟩ := Xc3 B475; obtain ⟨F108_0, F108_1, F108_2⟩ := Xf3 B475) | ((with_reducible refine gate_dst (N := 116) rfl ?_); (try (refine gate_guard (by rfl) ?_; dsimp only)); refine XM.len_event (enc := Value.bool) rfl (N := 116) rfl 134 _ rfl (g := gb486) (xs := x487000_3) rfl (by first | (exact B486.out)) Tryz.underlying134 ?_))
   go_meet
   case rel => exact ⟨_, (true), Xr, H', ⟨by have := HJ1.out; have := HK2.out; have := HK3.out; first | omega | exact Nat.le_refl _⟩, B475, B486, ⟨Xi⟩⟩
  replace c97 := Xbf c97
  subst c97
  try rw [if_neg Xft] at H
  have H' := Am H
  clear H
  have hnb109 := NB475_486.out
  have hnc109 := NB486_475.out
  obtain ⟨Z110_0, Z110_1, Z110_2⟩ := Xc3 B475
  obtain ⟨F110_0, F110_1, F110_2⟩ := Xf3 B475
  go_wp2_with (first | ((with_reducible refine gate_callee (f := 125) rfl ?_); refine Xgo 112 Tryz.func125 #[.pointer (some ⟨gb475, 0, none⟩), .int .i64 a0_0] ?_; (with_reducible refine (impl_Doc_has.calls k3 gb475 a0_0 a0_1 A0_2 c0_2 l0_2 a0_0 false _ ?s1 ?s2 ?s3 A96.out).mono ?_); (case s1 => exact B475.out); (case s2 => exact Xc HR0_2); (case s3 => exact HC0_2.out); rintro e w111 ⟨rfl, hb⟩; refine ⟨_, rfl, ?_⟩; replace B475 := Xbb B475 hb; replace B486 := Xbb B486 hb; replace HB := Xhb hb; clear hb))
  go_meet
  case rel => exact ⟨_, (true), Xr, H', ⟨by have := HJ1.out; have := HK2.out; have := HK3.out; first | omega | exact Nat.le_refl _⟩, B475, B486, ⟨Xi⟩⟩
 clear HC95
 (try clear c9); (try clear c11); (try clear c11b0); (try clear c70); (try clear c70b0); (try clear Z10_0); (try clear Z10_1); (try clear Z10_2); (try clear Z69_0); (try clear Z69_1); (try clear Z69_2); (try clear F10_0); (try clear F10_1); (try clear F10_2); (try clear F69_0); (try clear F69_1); (try clear F69_2)
 obtain ⟨kq, x125_94, rfl, HA, HJ94, B475, B486, HB⟩ := hcut
 cases kq with | zero => cases HA.out | succ kj94 => ?_
 have H := HA.out
 clear HA
 simp only [impl_DocOK.j6] at H
 by_cases c112 : x125_94 = true
 ·subst c112
  try rw [if_pos rfl] at H
  obtain rfl := Xsi H
  go_wp2
  go_ret
  exact ⟨Xe, Xi⟩
 replace c112 := Xbf c112
 subst c112
 try rw [if_neg Xft] at H
 obtain ⟨t493, A113, H⟩ := Xbi H
 try dsimp only at H
 obtain rfl := Xsi H
 try go_wp2_with (fail)
 replace B475 := Xbd B475
 replace B486 := Xbd B486
 replace HB := Xhd HB
 refine Sx 9 (fun w' => w'.cell? ⟨gb475, 0, none⟩ = some (.int .i64 a0_0) ∧ w'.cell? ⟨gb475, 1, none⟩ = some (.int .i64 a0_1) ∧ w'.cell? ⟨gb475, 2, none⟩ = some (.slice A0_2 l0_2.length c0_2)) ⟨Xk B475 0, Xk B475 1, Xk B475 2⟩ (fun hHeld => ?_); refine with_tabW impl_DocOK.tab23 impl_DocOK.bits23 (fun HT_ HW_ => ?_)
 generalize wc.drew = w114 at B475 B486 HB hHeld ⊢
 refine Pu 0 126 9 1 ?_
 refine Pu 4 130 9 17 ?_
 refine Ta 1 127 9 19 ?_
 refine Ta 5 131 9 51 ?_
 refine Pu 6 132 9 115 ?_
 refine On 2 128 9 119 (fun K hK => ?_)
 refine Gs Tryz.func127 #[.pointer (some ⟨gb475, 0, none⟩), .slice none 0 0, .int .i64 a0_0] ?_
 refine (impl_Doc_order.calls kj94 gb475 a0_0 a0_1 A0_2 c0_2 l0_2 (fun k_ => some k_ = (.slice none 0 0 : Value).ownBlock) (.slice none 0 0) ([] : List Int) a0_0 t493 w _ ?s1 ?s2 ?s3 ?s4 ?s5 A113.out).mono ?_
 (case s1 => exact Xi)
 (case s2 => exact B475.out)
 (case s3 => exact Kd.C_kept_came k113_heap HR0_2.out Xi (fun k_ hs_ => (fun e_ => by simp [Value.ownBlock] at e_) hs_))
 (case s4 => exact HC0_2.out)
 (case s5 => exact Kd.R_nil _ _ _ _ _)
 rintro e w115 ⟨v494, rfl, ho0, hb, hkp⟩
 refine ⟨_, rfl, ?_⟩
 replace B475 := Am (blk_kept B475.out hkp (fun hs_ => (fun e_ => by simp [Value.ownBlock] at e_) hs_))
 replace B486 := Am (blk_kept B486.out hkp (fun hs_ => (fun e_ => by simp [Value.ownBlock] at e_) hs_))
 have HO495 := Am (Kd.R_mono (ok' := fun k_ => True) ho0 (fun k_ hk_ => trivial))
 replace HB := Am (hb)
 try clear hb
 try clear hkp
 try clear ho0
 obtain ⟨Ao116, co116, eo116⟩ := Kd.R_slice HO495.out
 (first | subst eo116 | (injection eo116 with f1_ f2_ f3_; have f4_ := f1_.symm; have f5_ := f3_.symm; clear f1_ f2_ f3_; subst f4_; subst f5_))
 refine hK.out _ _ ⟨Xk B475 0, Xk B475 1, Xk B475 2⟩ (fun hHeld => ?_)
 clear hK K
 refine Xno ?_
 refine Pu 3 129 9 127 ?_
 refine Pu 7 133 9 255 ?_
 refine Pu 8 2 9 511 ?_
 refine Dn ?_
 try go_wp2_with (fail)
 go_ret
 exact ⟨Xe, Xi⟩
mutual
def impl_HoldsOK.j0 : Nat → List (S39) → Bool → Int → Int → List (S113) → Option (Bool)
 | 0, _, _, _, _, _ => none
 | k + 1, x1, x14, x514000, x514001, x514002 => if x14 = true then (some false) else (impl_HoldsOK.l0 k x1 x1 (x1.length : Int) 0 x514000 x514001 x514002)
def impl_HoldsOK.l0 : Nat → List (S39) → List (S39) → Int → Int → Int → Int → List (S113) → Option (Bool)
 | 0, _, _, _, _, _, _, _ => none
 | k + 1, x1, x15, x16, x17, x514000, x514001, x514002 => if x17 < x16 then (if 0 ≤ x17 then (if x17 < (x15.length : Int) then ((impl_Doc_isHold.f k x514000 x514001 x514002 ((rd_T39 x15 x17).f0) ((rd_T39 x15 x17).f1) ((rd_T39 x15 x17).f2)).bind fun t10 => (if t10 = true then (if x17 > 0 then (if 0 ≤ (wrap64 (x17 - 1)) then (if (wrap64 (x17 - 1)) < (x1.length : Int) then ((impl_compareHolds.f k ((rd_T39 x1 (wrap64 (x17 - 1))).f0) ((rd_T39 x1 (wrap64 (x17 - 1))).f1) ((rd_T39 x1 (wrap64 (x17 - 1))).f2) ((rd_T39 x15 x17).f0) ((rd_T39 x15 x17).f1) ((rd_T39 x15 x17).f2)).bind fun t11 => (if t11 ≥ 0 then (some false) else (impl_HoldsOK.l0 k x1 x15 x16 (wrap64 (x17 + 1)) x514000 x514001 x514002))) else (none)) else (none)) else (impl_HoldsOK.l0 k x1 x15 x16 (wrap64 (x17 + 1)) x514000 x514001 x514002)) else (some false))) else (none)) else (none)) else (some true)
end
def impl_HoldsOK.f (k : Nat) (a0_0 : Int) (a0_1 : Int) (l0_2 : List (S113)) (l1 : List (S39)) : Option (Bool) := (impl_DocOK.f k a0_0 a0_1 l0_2).bind fun t10 => (if t10 = true then (impl_HoldsOK.j0 k l1 (decide ((l1.length : Int) > 30)) a0_0 a0_1 l0_2) else (impl_HoldsOK.j0 k l1 true a0_0 a0_1 l0_2))
def impl_HoldsOK.T6 : Bool × List (List Nat × List Nat) := (true, [([], []), ([0], [0]), ([1], [1]), ([2, 1], [2]), ([3], [3]), ([4, 3], [3, 4]), ([5, 3, 3], [3, 5]), ([6], [6]), ([6], [6]), ([8, 6], [6, 8]), ([7, 9, 6], [6, 7, 9]), ([10, 6], [6, 10]), ([6], [6]), ([11, 12, 6, 6], [6, 11, 12]), ([13, 6], [6, 13]), ([6, 14, 3], [3, 6, 14]), ([3, 15], [3, 15])])
def impl_HoldsOK.B6 : List Nat := [0, 1, 3, 7, 15, 31, 63, 127, 127, 383, 1023, 2047, 127, 8191, 16383, 32767, 65535]
theorem impl_HoldsOK.tab6 : rtab .any (opsOf Tryz.f31 6) = impl_HoldsOK.T6 := by kernel_rfl
theorem impl_HoldsOK.bits6 : waitsOk impl_HoldsOK.T6.2 impl_HoldsOK.B6 = true := by kernel_rfl
theorem impl_HoldsOK.calls (k : Nat) (a0_0 : Int) (a0_1 : Int) (A0_2 : Option Addr) (c0_2 : Nat) (l0_2 : List (S113)) (A1 : Option Addr) (c1 : Nat) (l1 : List (S39)) (r : Bool) (w : World) (hr0_2 : Kd.C k113 w A0_2 l0_2.length l0_2) (hc0_2 : l0_2.length ≤ c0_2) (hr1 : Kd.C k39 w A1 l1.length l1) (hc1 : l1.length ≤ c1) (h : impl_HoldsOK.f k a0_0 a0_1 l0_2 l1 = some r) :
  Calls Tryz.prog 31 #[.agg #[.int .i64 a0_0, .int .i64 a0_1, .slice A0_2 l0_2.length c0_2], .slice A1 l1.length c1] w fun e w' => e = .returned (.bool r) ∧ Below w.heap.size w w' := by
 have hu35 := Tryz.underlying35
 have hu39 := Tryz.underlying39
 have HR0_2 := Am hr0_2
 have HC0_2 := Am hc0_2
 clear hr0_2 hc0_2
 have HR1 := Am hr1
 have HC1 := Am hc1
 clear hr1 hc1
 have HB := Am (Below.refl w.heap.size w)
 have H : ((impl_DocOK.f k a0_0 a0_1 l0_2).bind fun t43 => (if t43 = true then (impl_HoldsOK.j0 k l1 (decide ((l1.length : Int) > 30)) a0_0 a0_1 l0_2) else (impl_HoldsOK.j0 k l1 true a0_0 a0_1 l0_2))) = some r := h
 clear h
 have HC3 := Am H
 clear H
 go_enter Tryz.func31, Tryz.ntmps31
 go_upto_region 1 with ((with_reducible refine gate_dst (N := 2) rfl ?_); (try (refine gate_guard (by rfl) ?_; dsimp only)); refine Xbx 2 #[.int .i64 a0_0, .int .i64 a0_1, .slice A0_2 l0_2.length c0_2] 35 ?_; intro gb44 hg w4 B44 GE44 hb; replace HB := Xhb hb; clear hb hg)
 (try simp only [XW.q0, XW.q1, XW.q2])
 go_cut [14] (fun v14 wc => ∃ (kq : Nat) (x14_2 : Bool), v14 = .bool x14_2 ∧ Aside0 (impl_HoldsOK.j0 kq l1 x14_2 a0_0 a0_1 l0_2 = some r) ∧ Aside0 (kq ≤ k) ∧ Aside0 (wc.heap[gb44]? = some (.cells #[.int .i64 a0_0, .int .i64 a0_1, (.slice A0_2 l0_2.length c0_2)] 35 (0, 0))) ∧ Aside0 (Below w.heap.size w wc))
 case first =>
  have H := HC3.out
  clear HC3
  obtain ⟨t43, A5, H⟩ := Xbi H
  try dsimp only at H
  by_cases c6 : t43 = true
  ·subst c6
   try rw [if_pos rfl] at H
   have H' := Am H
   clear H
   obtain ⟨Z7_0, Z7_1, Z7_2⟩ := Xc3 B44
   obtain ⟨F7_0, F7_1, F7_2⟩ := Xf3 B44
   go_wp2_with (first | ((with_reducible refine gate_callee (f := 68) rfl ?_); refine Xgo 8 Tryz.func68 #[.agg #[.int .i64 a0_0, .int .i64 a0_1, .slice A0_2 l0_2.length c0_2]] ?_; (with_reducible refine (impl_DocOK.calls k a0_0 a0_1 _ _ l0_2 true _ ?s1 ?s2 A5.out).mono ?_); (case s1 => exact Xc HR0_2); (case s2 => exact HC0_2.out); rintro e w8 ⟨rfl, hb⟩; refine ⟨_, rfl, ?_⟩; replace B44 := Xbb B44 hb; replace HB := Xhb hb; clear hb))
   go_meet
   case rel => exact ⟨_, (decide ((l1.length : Int) > 30)), Xr, H', Xko, B44, ⟨Xi⟩⟩
  replace c6 := Xbf c6
  subst c6
  try rw [if_neg Xft] at H
  have H' := Am H
  clear H
  obtain ⟨Z9_0, Z9_1, Z9_2⟩ := Xc3 B44
  obtain ⟨F9_0, F9_1, F9_2⟩ := Xf3 B44
  go_wp2_with (first | ((with_reducible refine gate_callee (f := 68) rfl ?_); refine Xgo 8 Tryz.func68 #[.agg #[.int .i64 a0_0, .int .i64 a0_1, .slice A0_2 l0_2.length c0_2]] ?_; (with_reducible refine (impl_DocOK.calls k a0_0 a0_1 _ _ l0_2 false _ ?s1 ?s2 A5.out).mono ?_); (case s1 => exact Xc HR0_2); (case s2 => exact HC0_2.out); rintro e w10 ⟨rfl, hb⟩; refine ⟨_, rfl, ?_⟩; replace B44 := Xbb B44 hb; replace HB := Xhb hb; clear hb))
  go_meet
  case rel => exact ⟨_, (true), Xr, H', Xko, B44, ⟨Xi⟩⟩
 clear HC3
 try clear c1
 obtain ⟨kq, x14_2, rfl, HA, HJ2, B44, HB⟩ := hcut
 cases kq with | zero => cases HA.out | succ kj2 => ?_
 have H := HA.out
 clear HA
 simp only [impl_HoldsOK.j0] at H
 by_cases c11 : x14_2 = true
 ·subst c11
  try rw [if_pos rfl] at H
  obtain rfl := Xsi H
  go_wp2
  go_ret
  exact ⟨Xe, Xi⟩
 replace c11 := Xbf c11
 subst c11
 try rw [if_neg Xft] at H
 have H' := Am H
 clear H
 go_wp2
 go_loopg [17] kj2 (fun kq v17 w' => ∃ (x17_2 : Int), v17 = .int .i64 x17_2 ∧ Aside0 (impl_HoldsOK.l0 kq l1 l1 (l1.length : Int) x17_2 a0_0 a0_1 l0_2 = some r) ∧ Aside0 (kq ≤ kj2) ∧ Aside0 (w'.heap[gb44]? = some (.cells #[.int .i64 a0_0, .int .i64 a0_1, (.slice A0_2 l0_2.length c0_2)] 35 (0, 0))) ∧ Aside0 (Below w.heap.size w w'))
 case atStart => exact ⟨(0), Xr, H', Xkr, B44, ⟨Xi⟩⟩
 clear H'
 (try clear c1); (try clear c11)
 obtain ⟨x17_2, rfl, HA, HK2, B44, HB⟩ := hrel
 cases gk with | zero => cases HA.out | succ k2 => ?_
 have H := HA.out
 clear HA
 simp only [impl_HoldsOK.l0] at H
 obtain ⟨c12b0, H⟩ | ⟨c12b0, H⟩ := Xit H
 ·obtain ⟨c13b0, H⟩ := Xid H
  obtain ⟨c14b0, H⟩ := Xid H
  obtain ⟨t45, A15, H⟩ := Xbi H
  try dsimp only at H
  by_cases c16 : t45 = true
  ·subst c16
   try rw [if_pos rfl] at H
   obtain ⟨c17, H⟩ | ⟨c17, H⟩ := Xiu H
   ·have c17b0 : decide (0 < x17_2) = true := decide_eq_true c17
    clear c17
    obtain ⟨ji18, hji18⟩ : ∃ j_ : Int, (wrap64 (x17_2 - 1)) = j_ := ⟨_, rfl⟩
    replace H : (if 0 ≤ (ji18) then (if (ji18) < (l1.length : Int) then ((impl_compareHolds.f k2 ((rd_T39 l1 (ji18)).f0) ((rd_T39 l1 (ji18)).f1) ((rd_T39 l1 (ji18)).f2) ((rd_T39 l1 x17_2).f0) ((rd_T39 l1 x17_2).f1) ((rd_T39 l1 x17_2).f2)).bind fun t46 => (if t46 ≥ 0 then (some false) else (impl_HoldsOK.l0 k2 l1 l1 (l1.length : Int) (wrap64 (x17_2 + 1)) a0_0 a0_1 l0_2))) else (none)) else (none)) = some r := by first | (rw [hji18] at H; exact H) | (simp only [hji18] at H ⊢; exact H)
    (try rw [hji18] at A15)
    have hji18w : (IntKind.i64.wrap (x17_2 - 1)) = ji18 := (i64_w _).trans hji18
    obtain ⟨c19b0, H⟩ := Xid H
    obtain ⟨c20b0, H⟩ := Xid H
    obtain ⟨t46, A21, H⟩ := Xbi H
    try dsimp only at H
    have HC22 := Am H
    clear H
    obtain ⟨ad47, e47, p47, q47, hx47_0, hx47_1, hx47_2⟩ := at_B39 HR1 x17_2 Xa Xa HB
    cases e47
    try go_wp2_with (first | ((with_reducible refine gate_dst (N := 6) rfl ?_); (try (refine gate_guard (by rfl) ?_; dsimp only)); refine Xbx 6 #[.int .i64 0, .int .i64 0, .int .i64 0] 39 ?_; intro gb48 hg w23 B48 GE48 hb; have GW48 := GE48; replace HB := Xhb hb; have NB44_48 := Xnb hg B44; have NB48_44 := Xns NB44_48; replace B44 := Xbb B44 hb; clear hb hg; have hnb24 := NB48_44.out; have hnc24 := NB44_48.out; obtain ⟨Z25_0, Z25_1, Z25_2⟩ := Xc3 B48; obtain ⟨F25_0, F25_1, F25_2⟩ := Xf3 B48) | ((with_reducible refine gate_store (t := 39) (p := 6) rfl ?_); refine store_event (t := 39) (p := 6) (v := ?vo_w26) (w1 := (((w23.setCell ⟨gb48, 0, none⟩ (.int .i64 ((rd_T39 l1 x17_2).f0))).setCell ⟨gb48, 1, none⟩ (.int .i64 ((rd_T39 l1 x17_2).f1))).setCell ⟨gb48, 2, none⟩ (.int .i64 ((rd_T39 l1 x17_2).f2)))) ?hg ?ho ?hn ?hr ?_; (case ho => rfl); (case hg => rfl); (case hn => rfl); (case hr => first | (go_simp; done) | (go_simp; rfl)); intro w26 hw; have n0_ : Aside0 (w26.heap[gb44]? = some (.cells #[.int .i64 a0_0, .int .i64 a0_1, .slice A0_2 l0_2.length c0_2] 35 (0, 0))) := ⟨(by rw [hw]; exact (by refine Xu ?_; refine blk_far ?_ NB44_48.out _; refine Xu ?_; refine blk_far ?_ NB44_48.out _; refine Xu ?_; refine blk_far ?_ NB44_48.out _; refine Xu ?_; exact B44.out))⟩; have n1_ : Aside0 (w26.heap[gb48]? = some (.cells #[.int .i64 ((rd_T39 l1 x17_2).f0), .int .i64 ((rd_T39 l1 x17_2).f1), .int .i64 ((rd_T39 l1 x17_2).f2)] 39 (0, 0))) := ⟨(by rw [hw]; exact (by refine Xu ?_; refine blk_put (cs := #[.int .i64 ((rd_T39 l1 x17_2).f0), .int .i64 ((rd_T39 l1 x17_2).f1), .int .i64 0]) ?_ 2 _ rfl; refine Xu ?_; refine blk_put (cs := #[.int .i64 ((rd_T39 l1 x17_2).f0), .int .i64 0, .int .i64 0]) ?_ 1 _ rfl; refine Xu ?_; refine blk_put (cs := #[.int .i64 0, .int .i64 0, .int .i64 0]) ?_ 0 _ rfl; refine Xu ?_; exact B48.out))⟩; have n2_ : Aside0 (Below w.heap.size w w26) := ⟨(by rw [hw]; exact Xi)⟩; clear hw; clear B44; clear B48; clear HB; have B44 := n0_; have B48 := n1_; have HB := n2_; clear n0_ n1_ n2_))
    replace B44 := Xbd B44
    replace B48 := Xbd B48
    replace HB := Xhd HB
    have p49 : 0 ≤ ((ji18) : Int) := Xo
    have q49 : (ji18) < (l1.length : Int) := Xo
    obtain ⟨ad49, e49, hx49_0, hx49_1, hx49_2⟩ := at_T39 HR1.out (ji18) p49 q49
    have hw518_2 := hx49_2
    have hw518_1 := hx49_1
    have hw518_0 := hx49_0
    obtain rfl : ad47 = ad49 := (by injection e49)
    replace hx49_0 := Xm HB hx49_0
    replace hx49_1 := Xm HB hx49_1
    replace hx49_2 := Xm HB hx49_2
    replace p49 := eq_true p49
    replace q49 := eq_true q49
    refine Sx 17 (fun w' => w'.cell? ⟨gb48, 0, none⟩ = some (.int .i64 ((rd_T39 l1 x17_2).f0)) ∧ w'.cell? ⟨gb48, 1, none⟩ = some (.int .i64 ((rd_T39 l1 x17_2).f1)) ∧ w'.cell? ⟨gb48, 2, none⟩ = some (.int .i64 ((rd_T39 l1 x17_2).f2)) ∧ w'.cell? (ad47.add (((ji18)).toNat * 3)) = some (.int .i64 ((rd_T39 l1 (ji18)).f0)) ∧ w'.cell? ⟨(ad47.add (((ji18)).toNat * 3)).block, (ad47.add (((ji18)).toNat * 3)).off + 1, none⟩ = some (.int .i64 ((rd_T39 l1 (ji18)).f1)) ∧ w'.cell? ⟨(ad47.add (((ji18)).toNat * 3)).block, (ad47.add (((ji18)).toNat * 3)).off + 2, none⟩ = some (.int .i64 ((rd_T39 l1 (ji18)).f2))) ⟨Xk B48 0, Xk B48 1, Xk B48 2, Xn hw518_0, Xn hw518_1, Xn hw518_2⟩ (fun hHeld => ?_); refine with_tabW impl_HoldsOK.tab6 impl_HoldsOK.bits6 (fun HT_ HW_ => ?_)
    generalize w26.drew = w27 at B44 B48 HB hx49_0 hx49_1 hx49_2 hHeld ⊢
    refine Ta 0 22 17 1 ?_
    refine On 1 23 17 3 (fun K hK => ?_)
    refine Gs Tryz.func69 #[.pointer (some ⟨gb44, 0, none⟩), .agg #[.int .i64 ((rd_T39 l1 x17_2).f0), .int .i64 ((rd_T39 l1 x17_2).f1), .int .i64 ((rd_T39 l1 x17_2).f2)]] ?_
    with_reducible refine (impl_Doc_isHold.calls k2 gb44 a0_0 a0_1 A0_2 c0_2 l0_2 ((rd_T39 l1 x17_2).f0) ((rd_T39 l1 x17_2).f1) ((rd_T39 l1 x17_2).f2) true _ ?s1 ?s2 ?s3 A15.out).mono ?_
    (case s1 => exact B44.out)
    (case s2 => exact Xc HR0_2)
    (case s3 => exact HC0_2.out)
    rintro e w28 ⟨rfl, hb⟩
    refine ⟨_, rfl, ?_⟩
    replace B44 := Xbb B44 hb
    replace B48 := Xbb B48 hb
    replace HB := Xhb hb
    try clear hb
    try clear hb2
    try clear hk
    try clear hi
    refine hK.out _ _ ⟨Xk B48 0, Xk B48 1, Xk B48 2, Xn hw518_0, Xn hw518_1, Xn hw518_2⟩ (fun hHeld => ?_)
    clear hK K
    refine Xno ?_
    refine Pu 2 24 17 7 ?_
    refine Pu 3 25 17 15 ?_
    refine Pu 4 26 17 31 ?_
    refine Pu 5 27 17 63 ?_
    refine Pu 6 28 17 127 ?_
    refine Pu 7 29 17 255 ?_
    refine Pu 8 30 17 511 ?_
    refine Pu 9 31 17 1023 ?_
    refine Pu 10 32 17 2047 ?_
    refine Ta 11 33 17 4095 ?_
    refine Ta 12 34 17 8191 ?_
    refine On 13 35 17 16383 (fun K hK => ?_)
    refine goes_ Tryz.func70 (by kernel_rfl) rfl #[.agg #[.int .i64 ((rd_T39 l1 (ji18)).f0), .int .i64 ((rd_T39 l1 (ji18)).f1), .int .i64 ((rd_T39 l1 (ji18)).f2)], .agg #[.int .i64 ((rd_T39 l1 x17_2).f0), .int .i64 ((rd_T39 l1 x17_2).f1), .int .i64 ((rd_T39 l1 x17_2).f2)]] (by rfl) rfl rfl (by (try simp only [List.map_toArray, List.map_cons, List.map_nil]); first | done | (simp only [hji18]; rfl) | rfl | (simp only [List.length_drop, List.length_take]; rfl)) ?_
    with_reducible refine (impl_compareHolds.calls k2 ((rd_T39 l1 (ji18)).f0) ((rd_T39 l1 (ji18)).f1) ((rd_T39 l1 (ji18)).f2) ((rd_T39 l1 x17_2).f0) ((rd_T39 l1 x17_2).f1) ((rd_T39 l1 x17_2).f2) t46 _ A21.out).mono ?_
    rintro e w29 ⟨rfl, hb⟩
    refine ⟨_, rfl, ?_⟩
    replace B44 := Xbb B44 hb
    replace B48 := Xbb B48 hb
    replace HB := Xhb hb
    try clear hb
    try clear hb2
    try clear hk
    try clear hi
    refine hK.out _ _ ⟨Xk B48 0, Xk B48 1, Xk B48 2, Xn hw518_0, Xn hw518_1, Xn hw518_2⟩ (fun hHeld => ?_)
    clear hK K
    refine Xno ?_
    refine Pu 14 36 17 32767 ?_
    refine Pu 15 37 17 65535 ?_
    refine Pu 16 38 17 131071 ?_
    refine Dn ?_
    go_upto_if 38 with (fail)
    have H := HC22.out
    clear HC22
    obtain ⟨c30, H⟩ | ⟨c30, H⟩ := Xiu H
    ·have c30b0 : decide (0 ≤ t46) = true := decide_eq_true c30
     clear c30
     (first | rw [c30b0] | (simp only [i64_w, i32_w]; rw [c30b0]) | skip)
     obtain rfl := Xsi H
     go_wp2
     go_ret
     exact ⟨by first | rfl | (simp [errW_none, errW_some] <;> rfl) | (simp only [← hji18]; first | rfl | (simp [errW_none, errW_some] <;> rfl)) | (simp [*, errW_none, errW_some] <;> rfl), Xi⟩
    have c30b0 : decide (0 ≤ t46) = false := decide_eq_false c30
    clear c30
    (first | rw [c30b0] | (simp only [i64_w, i32_w]; rw [c30b0]) | skip)
    have H' := Am H
    clear H
    go_wp2
    go_roundg k2
    case measure => have := HJ2.out; have := HK2.out; omega
    case rel => exact ⟨(wrap64 (x17_2 + 1)), Xr, H', ⟨by have := HJ2.out; have := HK2.out; omega⟩, B44, ⟨Xi⟩⟩
   have c17b0 : decide (0 < x17_2) = false := decide_eq_false c17
   clear c17
   have H' := Am H
   clear H
   obtain ⟨ad47, e47, p47, q47, hx47_0, hx47_1, hx47_2⟩ := at_B39 HR1 x17_2 Xa Xa HB
   cases e47
   try go_wp2_with (first | ((with_reducible refine gate_dst (N := 6) rfl ?_); (try (refine gate_guard (by rfl) ?_; dsimp only)); refine Xbx 6 #[.int .i64 0, .int .i64 0, .int .i64 0] 39 ?_; intro gb48 hg w31 B48 GE48 hb; have GW48 := GE48; replace HB := Xhb hb; have NB44_48 := Xnb hg B44; have NB48_44 := Xns NB44_48; replace B44 := Xbb B44 hb; clear hb hg; have hnb32 := NB48_44.out; have hnc32 := NB44_48.out; obtain ⟨Z33_0, Z33_1, Z33_2⟩ := Xc3 B48; obtain ⟨F33_0, F33_1, F33_2⟩ := Xf3 B48) | ((with_reducible refine gate_store (t := 39) (p := 6) rfl ?_); refine store_event (t := 39) (p := 6) (v := ?vo_w34) (w1 := (((w31.setCell ⟨gb48, 0, none⟩ (.int .i64 ((rd_T39 l1 x17_2).f0))).setCell ⟨gb48, 1, none⟩ (.int .i64 ((rd_T39 l1 x17_2).f1))).setCell ⟨gb48, 2, none⟩ (.int .i64 ((rd_T39 l1 x17_2).f2)))) ?hg ?ho ?hn ?hr ?_; (case ho => rfl); (case hg => rfl); (case hn => rfl); (case hr => first | (go_simp; done) | (go_simp; rfl)); intro w34 hw; have n0_ : Aside0 (w34.heap[gb44]? = some (.cells #[.int .i64 a0_0, .int .i64 a0_1, .slice A0_2 l0_2.length c0_2] 35 (0, 0))) := ⟨(by rw [hw]; exact (by refine Xu ?_; refine blk_far ?_ NB44_48.out _; refine Xu ?_; refine blk_far ?_ NB44_48.out _; refine Xu ?_; refine blk_far ?_ NB44_48.out _; refine Xu ?_; exact B44.out))⟩; have n1_ : Aside0 (w34.heap[gb48]? = some (.cells #[.int .i64 ((rd_T39 l1 x17_2).f0), .int .i64 ((rd_T39 l1 x17_2).f1), .int .i64 ((rd_T39 l1 x17_2).f2)] 39 (0, 0))) := ⟨(by rw [hw]; exact (by refine Xu ?_; refine blk_put (cs := #[.int .i64 ((rd_T39 l1 x17_2).f0), .int .i64 ((rd_T39 l1 x17_2).f1), .int .i64 0]) ?_ 2 _ rfl; refine Xu ?_; refine blk_put (cs := #[.int .i64 ((rd_T39 l1 x17_2).f0), .int .i64 0, .int .i64 0]) ?_ 1 _ rfl; refine Xu ?_; refine blk_put (cs := #[.int .i64 0, .int .i64 0, .int .i64 0]) ?_ 0 _ rfl; refine Xu ?_; exact B48.out))⟩; have n2_ : Aside0 (Below w.heap.size w w34) := ⟨(by rw [hw]; exact Xi)⟩; clear hw; clear B44; clear B48; clear HB; have B44 := n0_; have B48 := n1_; have HB := n2_; clear n0_ n1_ n2_))
   replace B44 := Xbd B44
   replace B48 := Xbd B48
   replace HB := Xhd HB
   refine Sx 17 (fun w' => w'.cell? ⟨gb48, 0, none⟩ = some (.int .i64 ((rd_T39 l1 x17_2).f0)) ∧ w'.cell? ⟨gb48, 1, none⟩ = some (.int .i64 ((rd_T39 l1 x17_2).f1)) ∧ w'.cell? ⟨gb48, 2, none⟩ = some (.int .i64 ((rd_T39 l1 x17_2).f2))) ⟨Xk B48 0, Xk B48 1, Xk B48 2⟩ (fun hHeld => ?_); refine with_tabW impl_HoldsOK.tab6 impl_HoldsOK.bits6 (fun HT_ HW_ => ?_)
   generalize w34.drew = w35 at B44 B48 HB hHeld ⊢
   refine Ta 0 22 17 1 ?_
   refine On 1 23 17 3 (fun K hK => ?_)
   refine Gs Tryz.func69 #[.pointer (some ⟨gb44, 0, none⟩), .agg #[.int .i64 ((rd_T39 l1 x17_2).f0), .int .i64 ((rd_T39 l1 x17_2).f1), .int .i64 ((rd_T39 l1 x17_2).f2)]] ?_
   with_reducible refine (impl_Doc_isHold.calls k2 gb44 a0_0 a0_1 A0_2 c0_2 l0_2 ((rd_T39 l1 x17_2).f0) ((rd_T39 l1 x17_2).f1) ((rd_T39 l1 x17_2).f2) true _ ?s1 ?s2 ?s3 A15.out).mono ?_
   (case s1 => exact B44.out)
   (case s2 => exact Xc HR0_2)
   (case s3 => exact HC0_2.out)
   rintro e w36 ⟨rfl, hb⟩
   refine ⟨_, rfl, ?_⟩
   replace B44 := Xbb B44 hb
   replace B48 := Xbb B48 hb
   replace HB := Xhb hb
   try clear hb
   try clear hb2
   try clear hk
   try clear hi
   refine hK.out _ _ ⟨Xk B48 0, Xk B48 1, Xk B48 2⟩ (fun hHeld => ?_)
   clear hK K
   refine Xno ?_
   refine Pu 2 24 17 7 ?_
   refine Pu 3 25 17 15 ?_
   refine Pu 4 26 17 31 ?_
   refine Pu 5 27 17 63 ?_
   refine Pu 6 28 17 127 ?_
   refine Pn 7 29 17 255 ?_
   refine Pn 8 30 17 511 ?_
   refine Pn 9 31 17 1023 ?_
   refine Pn 10 32 17 2047 ?_
   refine Pn 11 33 17 4095 ?_
   refine Pn 12 34 17 8191 ?_
   refine Pn 13 35 17 16383 ?_
   refine Pn 14 36 17 32767 ?_
   refine Pu 15 37 17 65535 ?_
   refine Pu 16 38 17 131071 ?_
   refine Dn ?_
   try go_wp2_with (fail)
   go_roundg k2
   case measure => have := HJ2.out; have := HK2.out; omega
   case rel => exact ⟨(wrap64 (x17_2 + 1)), Xr, H', ⟨by have := HJ2.out; have := HK2.out; omega⟩, B44, ⟨Xi⟩⟩
  replace c16 := Xbf c16
  subst c16
  try rw [if_neg Xft] at H
  obtain rfl := Xsi H
  obtain ⟨ad47, e47, p47, q47, hx47_0, hx47_1, hx47_2⟩ := at_B39 HR1 x17_2 Xa Xa HB
  cases e47
  try go_wp2_with (first | ((with_reducible refine gate_dst (N := 6) rfl ?_); (try (refine gate_guard (by rfl) ?_; dsimp only)); refine Xbx 6 #[.int .i64 0, .int .i64 0, .int .i64 0] 39 ?_; intro gb48 hg w37 B48 GE48 hb; have GW48 := GE48; replace HB := Xhb hb; have NB44_48 := Xnb hg B44; have NB48_44 := Xns NB44_48; replace B44 := Xbb B44 hb; clear hb hg; have hnb38 := NB48_44.out; have hnc38 := NB44_48.out; obtain ⟨Z39_0, Z39_1, Z39_2⟩ := Xc3 B48; obtain ⟨F39_0, F39_1, F39_2⟩ := Xf3 B48) | ((with_reducible refine gate_store (t := 39) (p := 6) rfl ?_); refine store_event (t := 39) (p := 6) (v := ?vo_w40) (w1 := (((w37.setCell ⟨gb48, 0, none⟩ (.int .i64 ((rd_T39 l1 x17_2).f0))).setCell ⟨gb48, 1, none⟩ (.int .i64 ((rd_T39 l1 x17_2).f1))).setCell ⟨gb48, 2, none⟩ (.int .i64 ((rd_T39 l1 x17_2).f2)))) ?hg ?ho ?hn ?hr ?_; (case ho => rfl); (case hg => rfl); (case hn => rfl); (case hr => first | (go_simp; done) | (go_simp; rfl)); intro w40 hw; have n0_ : Aside0 (w40.heap[gb44]? = some (.cells #[.int .i64 a0_0, .int .i64 a0_1, .slice A0_2 l0_2.length c0_2] 35 (0, 0))) := ⟨(by rw [hw]; exact (by refine Xu ?_; refine blk_far ?_ NB44_48.out _; refine Xu ?_; refine blk_far ?_ NB44_48.out _; refine Xu ?_; refine blk_far ?_ NB44_48.out _; refine Xu ?_; exact B44.out))⟩; have n1_ : Aside0 (w40.heap[gb48]? = some (.cells #[.int .i64 ((rd_T39 l1 x17_2).f0), .int .i64 ((rd_T39 l1 x17_2).f1), .int .i64 ((rd_T39 l1 x17_2).f2)] 39 (0, 0))) := ⟨(by rw [hw]; exact (by refine Xu ?_; refine blk_put (cs := #[.int .i64 ((rd_T39 l1 x17_2).f0), .int .i64 ((rd_T39 l1 x17_2).f1), .int .i64 0]) ?_ 2 _ rfl; refine Xu ?_; refine blk_put (cs := #[.int .i64 ((rd_T39 l1 x17_2).f0), .int .i64 0, .int .i64 0]) ?_ 1 _ rfl; refine Xu ?_; refine blk_put (cs := #[.int .i64 0, .int .i64 0, .int .i64 0]) ?_ 0 _ rfl; refine Xu ?_; exact B48.out))⟩; have n2_ : Aside0 (Below w.heap.size w w40) := ⟨(by rw [hw]; exact Xi)⟩; clear hw; clear B44; clear B48; clear HB; have B44 := n0_; have B48 := n1_; have HB := n2_; clear n0_ n1_ n2_))
  replace B44 := Xbd B44
  replace B48 := Xbd B48
  replace HB := Xhd HB
  refine Sx 17 (fun w' => w'.cell? ⟨gb48, 0, none⟩ = some (.int .i64 ((rd_T39 l1 x17_2).f0)) ∧ w'.cell? ⟨gb48, 1, none⟩ = some (.int .i64 ((rd_T39 l1 x17_2).f1)) ∧ w'.cell? ⟨gb48, 2, none⟩ = some (.int .i64 ((rd_T39 l1 x17_2).f2))) ⟨Xk B48 0, Xk B48 1, Xk B48 2⟩ (fun hHeld => ?_); refine with_tabW impl_HoldsOK.tab6 impl_HoldsOK.bits6 (fun HT_ HW_ => ?_)
  generalize w40.drew = w41 at B44 B48 HB hHeld ⊢
  refine Ta 0 22 17 1 ?_
  refine On 1 23 17 3 (fun K hK => ?_)
  refine Gs Tryz.func69 #[.pointer (some ⟨gb44, 0, none⟩), .agg #[.int .i64 ((rd_T39 l1 x17_2).f0), .int .i64 ((rd_T39 l1 x17_2).f1), .int .i64 ((rd_T39 l1 x17_2).f2)]] ?_
  with_reducible refine (impl_Doc_isHold.calls k2 gb44 a0_0 a0_1 A0_2 c0_2 l0_2 ((rd_T39 l1 x17_2).f0) ((rd_T39 l1 x17_2).f1) ((rd_T39 l1 x17_2).f2) false _ ?s1 ?s2 ?s3 A15.out).mono ?_
  (case s1 => exact B44.out)
  (case s2 => exact Xc HR0_2)
  (case s3 => exact HC0_2.out)
  rintro e w42 ⟨rfl, hb⟩
  refine ⟨_, rfl, ?_⟩
  replace B44 := Xbb B44 hb
  replace B48 := Xbb B48 hb
  replace HB := Xhb hb
  try clear hb
  try clear hb2
  try clear hk
  try clear hi
  refine hK.out _ _ ⟨Xk B48 0, Xk B48 1, Xk B48 2⟩ (fun hHeld => ?_)
  clear hK K
  refine Xno ?_
  refine Pu 2 24 17 7 ?_
  refine Pu 3 25 17 15 ?_
  refine Pn 4 26 17 31 ?_
  refine Pn 5 27 17 63 ?_
  refine Pn 6 28 17 127 ?_
  refine Pn 7 29 17 255 ?_
  refine Pn 8 30 17 511 ?_
  refine Pn 9 31 17 1023 ?_
  refine Pn 10 32 17 2047 ?_
  refine Pn 11 33 17 4095 ?_
  refine Pn 12 34 17 8191 ?_
  refine Pn 13 35 17 16383 ?_
  refine Pn 14 36 17 32767 ?_
  refine Pn 15 37 17 65535 ?_
  refine Pu 16 38 17 131071 ?_
  refine Dn ?_
  try go_wp2_with (fail)
  go_ret
  exact ⟨Xe, Xi⟩
 obtain rfl := Xsi H
 go_wp2
 go_ret
 exact ⟨Xe, Xi⟩
def impl_Table_waiting_1.f (a0_0 : Int) (a0_1 : Int) (a0_2 : Int) (a1_0 : Int) : Option (Bool) := some (a0_0 == a1_0)
theorem impl_Table_waiting_1.calls (a0_0 : Int) (a0_1 : Int) (a0_2 : Int) (g1_ : Nat) (a1_0 : Int) (r : Bool) (w : World) (hg1_ : w.heap[g1_]? = some (.cells #[.int .i64 a1_0] 3 (0, 0))) (h : impl_Table_waiting_1.f a0_0 a0_1 a0_2 a1_0 = some r) :
  Calls Tryz.prog 109 #[.agg #[.int .i64 a0_0, .int .i64 a0_1, .int .i64 a0_2], .pointer (some ⟨g1_, 0, none⟩)] w fun e w' => e = .returned (.bool r) ∧ Below w.heap.size w w' := by
 have hu39 := Tryz.underlying39
 have B1 := Am hg1_
 clear hg1_
 have HB := Am (Below.refl w.heap.size w)
 have H : (some (a0_0 == a1_0)) = some r := h
 clear h
 obtain rfl := Xsi H
 go_enter Tryz.func109, Tryz.ntmps109
 go_wp2_with (first | ((with_reducible refine gate_dst (N := 2) rfl ?_); refine Xbx 2 #[.int .i64 a0_0, .int .i64 a0_1, .int .i64 a0_2] 39 ?_; intro gb10 hg w3 B10 GE10 hb; replace HB := Xhb hb; have NB1_10 := Xnb hg B1; have NB10_1 := Xns NB1_10; replace B1 := Xbb B1 hb; clear hb hg; have hnb4 := NB10_1.out; have hnc4 := NB1_10.out; obtain ⟨Z5_0, Z5_1, Z5_2⟩ := Xc3 B10; have Z6_0 := (blk_cell B1.out 0).trans XW.i0))
 go_ret
 exact ⟨Xe, Xi⟩
end Go.Proofs.YtahhgjkgfbppeaaGreat.XA
