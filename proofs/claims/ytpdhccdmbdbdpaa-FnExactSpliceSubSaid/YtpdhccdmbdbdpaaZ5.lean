/- Words and contracts of this claim, put together out of several texts by a program of this session's. Conditions: each theorem's own premises. -/
import Derived.Test.YtpdhccdmbdbdpaaZ1
import Derived.Test.YtpdhccdmbdbdpaaZ3
import Derived.Test.YtpdhccdmbdbdpaaZ4
import Derived.Lib.BufferMore
namespace Go.Proofs.Ytpdhccdmbdbdpaa.XA
open Go.RowKit Go.Proofs.YtpdhccdmbdbdpaaW.PrintWords Go.Proofs.YtpdhccdmbdbdpaaW.PrintLast Go.Proofs.YtpdhccdmbdbdpaaW.PrintMore XW
attribute [local go_sem] max2_int min2_int max_two min_two max_three min_three max_four min_four   -- for this text's walks alone
set_option linter.unusedVariables false
set_option linter.unusedSimpArgs false
set_option maxHeartbeats 8000000
set_option maxRecDepth 100000
mutual
def impl_DocOK.j0 : Nat → Bool → Int → Int → List (S43) → Option (Bool)
 | 0, _, _, _, _ => none
 | k + 1, x20, x352000, x352001, x352002 => if x20 = true then (some false) else (impl_DocOK.l0 k x352002 (x352002.length : Int) 0 x352000 x352001 x352002)
def impl_DocOK.l0 : Nat → List (S43) → Int → Int → Int → Int → List (S43) → Option (Bool)
 | 0, _, _, _, _, _, _ => none
 | k + 1, x22, x23, x24, x352000, x352001, x352002 => if x24 < x23 then (if 0 ≤ x24 then (if x24 < (x22.length : Int) then ((impl_within.f ((rd_T43 x22 x24).f0) 1 (wrap64 (x352001 - 1))).bind fun t10 => (if t10 = true then (if x24 > 0 then (if 0 ≤ (wrap64 (x24 - 1)) then (if (wrap64 (x24 - 1)) < (x352002.length : Int) then (if ((rd_T43 x352002 (wrap64 (x24 - 1))).f0) ≥ ((rd_T43 x22 x24).f0) then (impl_DocOK.j2 k x22 x23 x24 true x352000 x352001 x352002) else ((impl_within.f ((rd_T43 x22 x24).f1) 1 8).bind fun t11 => (if t11 = true then ((impl_within.f ((rd_T43 x22 x24).f2) 0 99).bind fun t12 => (if t12 = true then (if (((rd_T43 x22 x24).f3).size : Int) > 20 then (impl_DocOK.j2 k x22 x23 x24 true x352000 x352001 x352002) else (impl_DocOK.j2 k x22 x23 x24 (decide ((((rd_T43 x22 x24).f4).length : Int) > 12)) x352000 x352001 x352002)) else (impl_DocOK.j2 k x22 x23 x24 true x352000 x352001 x352002))) else (impl_DocOK.j2 k x22 x23 x24 true x352000 x352001 x352002)))) else (none)) else (none)) else ((impl_within.f ((rd_T43 x22 x24).f1) 1 8).bind fun t13 => (if t13 = true then ((impl_within.f ((rd_T43 x22 x24).f2) 0 99).bind fun t14 => (if t14 = true then (if (((rd_T43 x22 x24).f3).size : Int) > 20 then (impl_DocOK.j2 k x22 x23 x24 true x352000 x352001 x352002) else (impl_DocOK.j2 k x22 x23 x24 (decide ((((rd_T43 x22 x24).f4).length : Int) > 12)) x352000 x352001 x352002)) else (impl_DocOK.j2 k x22 x23 x24 true x352000 x352001 x352002))) else (impl_DocOK.j2 k x22 x23 x24 true x352000 x352001 x352002)))) else (impl_DocOK.j2 k x22 x23 x24 true x352000 x352001 x352002))) else (none)) else (none)) else (impl_DocOK.l1 k x352002 (x352002.length : Int) 0 x352000 x352001 x352002 ([] : List (Int × Bool)))
def impl_DocOK.j2 : Nat → List (S43) → Int → Int → Bool → Int → Int → List (S43) → Option (Bool)
 | 0, _, _, _, _, _, _, _ => none
 | k + 1, x22, x23, x24, x75, x352000, x352001, x352002 => if x75 = true then (some false) else (impl_DocOK.l0 k x22 x23 (wrap64 (x24 + 1)) x352000 x352001 x352002)
def impl_DocOK.l1 : Nat → List (S43) → Int → Int → Int → Int → List (S43) → List (Int × Bool) → Option (Bool)
 | 0, _, _, _, _, _, _, _ => none
 | k + 1, x79, x80, x81, x352000, x352001, x352002, x363000 => if x81 < x80 then (if 0 ≤ x81 then (if x81 < (x79.length : Int) then (impl_DocOK.l2 k x79 x80 x81 ((rd_T43 x79 x81).f4) (((rd_T43 x79 x81).f4).length : Int) 0 x352000 x352001 x352002 x363000) else (none)) else (none)) else ((impl_Doc_has.f k x352000 x352001 x352002 x352000).bind fun t10 => (if t10 = true then (if (x363000.length : Int) = (wrap64 ((x352002.length : Int) - 1)) then ((impl_Doc_isDeep.f k x352000 x352001 x352002).bind fun t11 => (impl_DocOK.j6 k t11 x352000 x352001 x352002)) else (impl_DocOK.j6 k true x352000 x352001 x352002)) else (impl_DocOK.j6 k true x352000 x352001 x352002)))
def impl_DocOK.l2 : Nat → List (S43) → Int → Int → List Int → Int → Int → Int → Int → List (S43) → List (Int × Bool) → Option (Bool)
 | 0, _, _, _, _, _, _, _, _, _, _ => none
 | k + 1, x79, x80, x81, x86, x87, x88, x352000, x352001, x352002, x363000 => if x88 < x87 then (if 0 ≤ x88 then (if x88 < (x86.length : Int) then (if XM.get false x363000 (rd x86 x88) = true then (impl_DocOK.j5 k (rd x86 x88) x79 x80 x81 x86 x87 x88 true x352000 x352001 x352002 x363000) else (if (rd x86 x88) = x352000 then (impl_DocOK.j5 k (rd x86 x88) x79 x80 x81 x86 x87 x88 true x352000 x352001 x352002 x363000) else ((impl_Doc_has.f k x352000 x352001 x352002 (rd x86 x88)).bind fun t10 => (impl_DocOK.j5 k (rd x86 x88) x79 x80 x81 x86 x87 x88 (!t10) x352000 x352001 x352002 x363000)))) else (none)) else (none)) else (impl_DocOK.l1 k x79 x80 (wrap64 (x81 + 1)) x352000 x352001 x352002 x363000)
def impl_DocOK.j5 : Nat → Int → List (S43) → Int → Int → List Int → Int → Int → Bool → Int → Int → List (S43) → List (Int × Bool) → Option (Bool)
 | 0, _, _, _, _, _, _, _, _, _, _, _, _ => none
 | k + 1, x9, x79, x80, x81, x86, x87, x88, x105, x352000, x352001, x352002, x363000 => if x105 = true then (some false) else (impl_DocOK.l2 k x79 x80 x81 x86 x87 (wrap64 (x88 + 1)) x352000 x352001 x352002 (XM.put x363000 x9 true))
def impl_DocOK.j6 : Nat → Bool → Int → Int → List (S43) → Option (Bool)
 | 0, _, _, _, _ => none
 | k + 1, x125, x352000, x352001, x352002 => if x125 = true then (some false) else ((impl_Doc_order.f k x352000 x352001 x352002 ([] : List Int) x352000).bind fun t10 => (some ((t10.length : Int) == (x352002.length : Int))))
end
def impl_DocOK.f (k : Nat) (a0_0 : Int) (a0_1 : Int) (l0_2 : List (S43)) : Option (Bool) := (impl_within.f (l0_2.length : Int) 1 40).bind fun t10 => (if t10 = true then ((impl_within.f a0_1 2 999999).bind fun t11 => (impl_DocOK.j0 k (!t11) a0_0 a0_1 l0_2)) else (impl_DocOK.j0 k true a0_0 a0_1 l0_2))
def impl_DocOK.T23 : Bool × List (List Nat × List Nat) := (true, [([], []), ([0], [0]), ([1], [1]), ([2], [2]), ([], []), ([4], [4]), ([5], [5]), ([3, 6], [3, 6]), ([7, 2, 0, 1, 2, 3, 4, 5, 6, 7], [7])])
def impl_DocOK.B23 : List Nat := [0, 1, 3, 7, 0, 16, 48, 127, 255]
theorem impl_DocOK.tab23 : rtab .any (opsOf Try.f24 23) = impl_DocOK.T23 := by kernel_rfl
theorem impl_DocOK.bits23 : waitsOk impl_DocOK.T23.2 impl_DocOK.B23 = true := by kernel_rfl
theorem impl_DocOK.calls (k : Nat) (a0_0 : Int) (a0_1 : Int) (A0_2 : Option Addr) (c0_2 : Nat) (l0_2 : List (S43)) (r : Bool) (w : World) (hr0_2 : Kd.C k43 w A0_2 l0_2.length l0_2) (hc0_2 : l0_2.length ≤ c0_2) (h : impl_DocOK.f k a0_0 a0_1 l0_2 = some r) :
  Calls Try.prog 24 #[.agg #[.int .i64 a0_0, .int .i64 a0_1, .slice A0_2 l0_2.length c0_2]] w fun e w' => e = .returned (.bool r) ∧ Below w.heap.size w w' := by
 have hu29 := Try.underlying29
 have hu43 := Try.underlying43
 have HR0_2 := Am hr0_2
 have HC0_2 := Am hc0_2
 clear hr0_2 hc0_2
 have HB := Am (Below.refl w.heap.size w)
 have H : ((impl_within.f (l0_2.length : Int) 1 40).bind fun t352 => (if t352 = true then ((impl_within.f a0_1 2 999999).bind fun t353 => (impl_DocOK.j0 k (!t353) a0_0 a0_1 l0_2)) else (impl_DocOK.j0 k true a0_0 a0_1 l0_2))) = some r := h
 clear h
 have HC2 := Am H
 clear H
 go_enter Try.func24, Try.ntmps24
 go_upto_region 1 with ((with_reducible refine gate_dst (N := 1) rfl ?_); (try (refine gate_guard (by rfl) ?_; dsimp only)); refine Xbx 1 #[.int .i64 a0_0, .int .i64 a0_1, .slice A0_2 l0_2.length c0_2] 29 ?_; intro gb351 hg w3 B351 GE351 hb; replace HB := Xhb hb; clear hb hg)
 (try simp only [XW.q0, XW.q1, XW.q2])
 go_cut [20] (fun v20 wc => ∃ (kq : Nat) (x20_1 : Bool), v20 = .bool x20_1 ∧ Aside0 (impl_DocOK.j0 kq x20_1 a0_0 a0_1 l0_2 = some r) ∧ Aside0 (kq ≤ k) ∧ Aside0 (wc.heap[gb351]? = some (.cells #[.int .i64 a0_0, .int .i64 a0_1, (.slice A0_2 l0_2.length c0_2)] 29 (0, 0))) ∧ Aside0 (Below w.heap.size w wc))
 case first =>
  have H := HC2.out
  clear HC2
  obtain ⟨t352, A4, H⟩ := Xbi H
  try dsimp only at H
  by_cases c5 : t352 = true
  ·subst c5
   try rw [if_pos rfl] at H
   obtain ⟨t353, A6, H⟩ := Xbi H
   try dsimp only at H
   have H' := Am H
   clear H
   obtain ⟨Z7_0, Z7_1, Z7_2⟩ := Xc3 B351
   obtain ⟨F7_0, F7_1, F7_2⟩ := Xf3 B351
   go_wp2_with (first | ((with_reducible refine gate_callee (f := 66) rfl ?_); refine Xgo 13 Try.func66 #[.int .i64 (l0_2.length : Int), .int .i64 1, .int .i64 40] ?_; (with_reducible refine (impl_within.calls (l0_2.length : Int) 1 40 true _ A4.out).mono ?_); rintro e w' ⟨rfl, ⟨nd, rfl⟩⟩; refine ⟨_, rfl, ?_⟩) | (go_at_call 66; (with_reducible refine (impl_within.calls a0_1 2 999999 t353 _ A6.out).mono ?_); rintro e w' ⟨rfl, ⟨nd, rfl⟩⟩; (try exact Xdd)))
   go_meet
   case rel => exact ⟨_, (!t353), Xr, H', Xko, B351, ⟨Xi⟩⟩
  replace c5 := Xbf c5
  subst c5
  try rw [if_neg Xft] at H
  have H' := Am H
  clear H
  obtain ⟨Z8_0, Z8_1, Z8_2⟩ := Xc3 B351
  obtain ⟨F8_0, F8_1, F8_2⟩ := Xf3 B351
  go_wp2_with (first | ((with_reducible refine gate_callee (f := 66) rfl ?_); refine Xgo 13 Try.func66 #[.int .i64 (l0_2.length : Int), .int .i64 1, .int .i64 40] ?_; (with_reducible refine (impl_within.calls (l0_2.length : Int) 1 40 false _ A4.out).mono ?_); rintro e w' ⟨rfl, ⟨nd, rfl⟩⟩; refine ⟨_, rfl, ?_⟩))
  go_meet
  case rel => exact ⟨_, (true), Xr, H', Xko, B351, ⟨Xi⟩⟩
 clear HC2
 obtain ⟨kq, x20_1, rfl, HA, HJ1, B351, HB⟩ := hcut
 cases kq with | zero => cases HA.out | succ kj1 => ?_
 have H := HA.out
 clear HA
 simp only [impl_DocOK.j0] at H
 by_cases c9 : x20_1 = true
 ·subst c9
  try rw [if_pos rfl] at H
  obtain rfl := Xsi H
  go_wp2
  go_ret
  exact ⟨Xe, Xi⟩
 replace c9 := Xbf c9
 subst c9
 try rw [if_neg Xft] at H
 have H' := Am H
 clear H
 obtain ⟨Z10_0, Z10_1, Z10_2⟩ := Xc3 B351
 obtain ⟨F10_0, F10_1, F10_2⟩ := Xf3 B351
 go_wp2
 go_loopg [24] kj1 (fun kq v24 w' => ∃ (x24_2 : Int), v24 = .int .i64 x24_2 ∧ Aside0 (impl_DocOK.l0 kq l0_2 (l0_2.length : Int) x24_2 a0_0 a0_1 l0_2 = some r) ∧ Aside0 (kq ≤ kj1) ∧ Aside0 (w'.heap[gb351]? = some (.cells #[.int .i64 a0_0, .int .i64 a0_1, (.slice A0_2 l0_2.length c0_2)] 29 (0, 0))) ∧ Aside0 (Below w.heap.size w w'))
 case atStart => exact ⟨(0), Xr, H', Xkr, B351, ⟨Xi⟩⟩
 clear H'
 (try clear c9); (try clear Z10_0); (try clear Z10_1); (try clear Z10_2); (try clear F10_0); (try clear F10_1); (try clear F10_2)
 obtain ⟨x24_2, rfl, HA, HK2, B351, HB⟩ := hrel
 cases gk with | zero => cases HA.out | succ k2 => ?_
 have H := HA.out
 clear HA
 simp only [impl_DocOK.l0] at H
 obtain ⟨c11b0, H⟩ | ⟨c11b0, H⟩ := Xit H
 ·obtain ⟨c12b0, H⟩ := Xid H
  obtain ⟨c13b0, H⟩ := Xid H
  have HC14 := Am H
  clear H
  obtain ⟨ad354, A354_4, c354_4, e354, p354, q354, hx354_0, hx354_1, hx354_2, hx354_3, hx354_4, HC354_4, HR354_4⟩ := at_B43 HR0_2 x24_2 Xa Xa HB
  cases e354
  go_upto_region 6 with (first | ((with_reducible refine gate_dst (N := 4) rfl ?_); (try (refine gate_guard (by rfl) ?_; dsimp only)); refine Xbx 4 #[.int .i64 0, .int .i64 0, .int .i64 0, .string (⟨#[]⟩ : ByteArray), .slice none 0 0] 43 ?_; intro gb355 hg w15 B355 GE355 hb; replace HB := Xhb hb; have NB351_355 := Xnb hg B351; have NB355_351 := Xns NB351_355; replace B351 := Xbb B351 hb; clear hb hg; have hnb16 := NB355_351.out; have hnc16 := NB351_355.out; obtain ⟨Z17_0, Z17_1, Z17_2, Z17_3, Z17_4⟩ := Xc5 B355; obtain ⟨F17_0, F17_1, F17_2, F17_3, F17_4⟩ := Xf5 B355) | ((with_reducible refine gate_store (t := 43) (p := 4) rfl ?_); refine store_event (t := 43) (p := 4) (v := ?vo_w18) (w1 := (((((w15.setCell ⟨gb355, 0, none⟩ (.int .i64 ((rd_T43 l0_2 x24_2).f0))).setCell ⟨gb355, 1, none⟩ (.int .i64 ((rd_T43 l0_2 x24_2).f1))).setCell ⟨gb355, 2, none⟩ (.int .i64 ((rd_T43 l0_2 x24_2).f2))).setCell ⟨gb355, 3, none⟩ (.string ((rd_T43 l0_2 x24_2).f3))).setCell ⟨gb355, 4, none⟩ (.slice A354_4 ((rd_T43 l0_2 x24_2).f4).length c354_4))) ?hg ?ho ?hn ?hr ?_; (case ho => rfl); (case hg => rfl); (case hn => rfl); (case hr => first | (go_simp; done) | (go_simp; rfl)); intro w18 hw; have n0_ : Aside0 (w18.heap[gb351]? = some (.cells #[.int .i64 a0_0, .int .i64 a0_1, .slice (some ad354) l0_2.length c0_2] 29 (0, 0))) := ⟨(by rw [hw]; exact (by refine Xu ?_; refine blk_far ?_ NB351_355.out _; refine Xu ?_; refine blk_far ?_ NB351_355.out _; refine Xu ?_; refine blk_far ?_ NB351_355.out _; refine Xu ?_; refine blk_far ?_ NB351_355.out _; refine Xu ?_; refine blk_far ?_ NB351_355.out _; refine Xu ?_; exact B351.out))⟩; have n1_ : Aside0 (w18.heap[gb355]? = some (.cells #[.int .i64 ((rd_T43 l0_2 x24_2).f0), .int .i64 ((rd_T43 l0_2 x24_2).f1), .int .i64 ((rd_T43 l0_2 x24_2).f2), .string ((rd_T43 l0_2 x24_2).f3), .slice A354_4 ((rd_T43 l0_2 x24_2).f4).length c354_4] 43 (0, 0))) := ⟨(by rw [hw]; exact (by refine Xu ?_; refine blk_put (cs := #[.int .i64 ((rd_T43 l0_2 x24_2).f0), .int .i64 ((rd_T43 l0_2 x24_2).f1), .int .i64 ((rd_T43 l0_2 x24_2).f2), .string ((rd_T43 l0_2 x24_2).f3), .slice none 0 0]) ?_ 4 _ rfl; refine Xu ?_; refine blk_put (cs := #[.int .i64 ((rd_T43 l0_2 x24_2).f0), .int .i64 ((rd_T43 l0_2 x24_2).f1), .int .i64 ((rd_T43 l0_2 x24_2).f2), .string (⟨#[]⟩ : ByteArray), .slice none 0 0]) ?_ 3 _ rfl; refine Xu ?_; refine blk_put (cs := #[.int .i64 ((rd_T43 l0_2 x24_2).f0), .int .i64 ((rd_T43 l0_2 x24_2).f1), .int .i64 0, .string (⟨#[]⟩ : ByteArray), .slice none 0 0]) ?_ 2 _ rfl; refine Xu ?_; refine blk_put (cs := #[.int .i64 ((rd_T43 l0_2 x24_2).f0), .int .i64 0, .int .i64 0, .string (⟨#[]⟩ : ByteArray), .slice none 0 0]) ?_ 1 _ rfl; refine Xu ?_; refine blk_put (cs := #[.int .i64 0, .int .i64 0, .int .i64 0, .string (⟨#[]⟩ : ByteArray), .slice none 0 0]) ?_ 0 _ rfl; refine Xu ?_; exact B355.out))⟩; have n2_ : Aside0 (Below w.heap.size w w18) := ⟨(by rw [hw]; exact Xi)⟩; clear hw; clear B351; clear B355; clear HB; have B351 := n0_; have B355 := n1_; have HB := n2_; clear n0_ n1_ n2_))
  (try simp only [XW.q0, XW.q1, XW.q2])
  go_cut [75] (fun v75 wc => ∃ (kq : Nat) (x75_13 : Bool), v75 = .bool x75_13 ∧ Aside0 (impl_DocOK.j2 kq l0_2 (l0_2.length : Int) x24_2 x75_13 a0_0 a0_1 l0_2 = some r) ∧ Aside0 (kq ≤ k2) ∧ Aside0 (wc.heap[gb351]? = some (.cells #[.int .i64 a0_0, .int .i64 a0_1, (.slice (some ad354) l0_2.length c0_2)] 29 (0, 0))) ∧ Aside0 (wc.heap[gb355]? = some (.cells #[.int .i64 ((rd_T43 l0_2 x24_2).f0), .int .i64 ((rd_T43 l0_2 x24_2).f1), .int .i64 ((rd_T43 l0_2 x24_2).f2), .string ((rd_T43 l0_2 x24_2).f3), (.slice A354_4 ((rd_T43 l0_2 x24_2).f4).length c354_4)] 43 (0, 0))) ∧ Aside0 (Below w.heap.size w wc))
  case first =>
   have H := HC14.out
   clear HC14
   obtain ⟨t356, A19, H⟩ := Xbi H
   try dsimp only at H
   by_cases c20 : t356 = true
   ·subst c20
    try rw [if_pos rfl] at H
    obtain ⟨c21, H⟩ | ⟨c21, H⟩ := Xiu H
    ·have c21b0 : decide (0 < x24_2) = true := decide_eq_true c21
     clear c21
     (first | rw [c21b0] | (simp only [i64_w, i32_w]; rw [c21b0]) | skip)
     obtain ⟨ji22, hji22⟩ : ∃ j_ : Int, (wrap64 (x24_2 - 1)) = j_ := ⟨_, rfl⟩
     replace H : (if 0 ≤ (ji22) then (if (ji22) < (l0_2.length : Int) then (if ((rd_T43 l0_2 (ji22)).f0) ≥ ((rd_T43 l0_2 x24_2).f0) then (impl_DocOK.j2 k2 l0_2 (l0_2.length : Int) x24_2 true a0_0 a0_1 l0_2) else ((impl_within.f ((rd_T43 l0_2 x24_2).f1) 1 8).bind fun t358 => (if t358 = true then ((impl_within.f ((rd_T43 l0_2 x24_2).f2) 0 99).bind fun t359 => (if t359 = true then (if (((rd_T43 l0_2 x24_2).f3).size : Int) > 20 then (impl_DocOK.j2 k2 l0_2 (l0_2.length : Int) x24_2 true a0_0 a0_1 l0_2) else (impl_DocOK.j2 k2 l0_2 (l0_2.length : Int) x24_2 (decide ((((rd_T43 l0_2 x24_2).f4).length : Int) > 12)) a0_0 a0_1 l0_2)) else (impl_DocOK.j2 k2 l0_2 (l0_2.length : Int) x24_2 true a0_0 a0_1 l0_2))) else (impl_DocOK.j2 k2 l0_2 (l0_2.length : Int) x24_2 true a0_0 a0_1 l0_2)))) else (none)) else (none)) = some r := by first | (rw [hji22] at H; exact H) | (simp only [hji22] at H ⊢; exact H)
     (try rw [hji22] at A19)
     have hji22w : (IntKind.i64.wrap (x24_2 - 1)) = ji22 := (i64_w _).trans hji22
     obtain ⟨c23b0, H⟩ := Xid H
     obtain ⟨c24b0, H⟩ := Xid H
     obtain ⟨c25, H⟩ | ⟨c25, H⟩ := Xiu H
     ·have c25b0 : decide (((rd_T43 l0_2 x24_2).f0) ≤ ((rd_T43 l0_2 (ji22)).f0)) = true := decide_eq_true c25
      clear c25
      have H' := Am H
      clear H
      have hnb26 := NB355_351.out
      have hnc26 := NB351_355.out
      obtain ⟨Z27_0, Z27_1, Z27_2, Z27_3, Z27_4⟩ := Xc5 B355
      obtain ⟨F27_0, F27_1, F27_2, F27_3, F27_4⟩ := Xf5 B355
      obtain ⟨Z28_0, Z28_1, Z28_2⟩ := Xc3 B351
      obtain ⟨F28_0, F28_1, F28_2⟩ := Xf3 B351
      obtain ⟨ad357, A357_4, c357_4, e357, p357, q357, hx357_0, hx357_1, hx357_2, hx357_3, hx357_4, HC357_4, HR357_4⟩ := at_B43 HR0_2 (ji22) Xa Xa HB
      obtain rfl : ad354 = ad357 := (by injection e357)
      (try go_wp2)
      repeat (go_quiet (first | (go_at_call 66; (with_reducible refine (impl_within.calls ((rd_T43 l0_2 x24_2).f0) 1 (wrap64 (a0_1 - 1)) true _ A19.out).mono ?_); rintro e w' ⟨rfl, ⟨nd, rfl⟩⟩; (try exact Xdd))); try go_wp2)
      go_meet
      case rel => exact ⟨_, (true), Xr, H', ⟨by have := HJ1.out; have := HK2.out; first | omega | exact Nat.le_refl _⟩, B351, B355, ⟨Xi⟩⟩
     have c25b0 : decide (((rd_T43 l0_2 x24_2).f0) ≤ ((rd_T43 l0_2 (ji22)).f0)) = false := decide_eq_false c25
     clear c25
     obtain ⟨t358, A29, H⟩ := Xbi H
     try dsimp only at H
     by_cases c30 : t358 = true
     ·subst c30
      try rw [if_pos rfl] at H
      obtain ⟨t359, A31, H⟩ := Xbi H
      try dsimp only at H
      by_cases c32 : t359 = true
      ·subst c32
       try rw [if_pos rfl] at H
       obtain ⟨c33, H⟩ | ⟨c33, H⟩ := Xiu H
       ·have c33b0 : decide (20 < (((rd_T43 l0_2 x24_2).f3).size : Int)) = true := decide_eq_true c33
        have c33b1 : decide (20 < ((rd_T43 l0_2 x24_2).f3).size) = true := decide_eq_true (by omega)
        clear c33
        have H' := Am H
        clear H
        have hnb34 := NB355_351.out
        have hnc34 := NB351_355.out
        obtain ⟨Z35_0, Z35_1, Z35_2, Z35_3, Z35_4⟩ := Xc5 B355
        obtain ⟨F35_0, F35_1, F35_2, F35_3, F35_4⟩ := Xf5 B355
        obtain ⟨Z36_0, Z36_1, Z36_2⟩ := Xc3 B351
        obtain ⟨F36_0, F36_1, F36_2⟩ := Xf3 B351
        obtain ⟨ad357, A357_4, c357_4, e357, p357, q357, hx357_0, hx357_1, hx357_2, hx357_3, hx357_4, HC357_4, HR357_4⟩ := at_B43 HR0_2 (ji22) Xa Xa HB
        obtain rfl : ad354 = ad357 := (by injection e357)
        (try go_wp2)
        repeat (go_quiet (first | (go_at_call 66; (with_reducible refine (impl_within.calls ((rd_T43 l0_2 x24_2).f0) 1 (wrap64 (a0_1 - 1)) true _ A19.out).mono ?_); rintro e w' ⟨rfl, ⟨nd, rfl⟩⟩; (try exact Xdd)) | (go_at_call 66; (with_reducible refine (impl_within.calls ((rd_T43 l0_2 x24_2).f1) 1 8 true _ A29.out).mono ?_); rintro e w' ⟨rfl, ⟨nd, rfl⟩⟩; (try exact Xdd)) | (go_at_call 66; (with_reducible refine (impl_within.calls ((rd_T43 l0_2 x24_2).f2) 0 99 true _ A31.out).mono ?_); rintro e w' ⟨rfl, ⟨nd, rfl⟩⟩; (try exact Xdd))); try go_wp2)
        go_meet
        case rel => exact ⟨_, (true), Xr, H', ⟨by have := HJ1.out; have := HK2.out; first | omega | exact Nat.le_refl _⟩, B351, B355, ⟨Xi⟩⟩
       have c33b0 : decide (20 < (((rd_T43 l0_2 x24_2).f3).size : Int)) = false := decide_eq_false c33
       have c33b1 : decide (20 < ((rd_T43 l0_2 x24_2).f3).size) = false := decide_eq_false (by omega)
       clear c33
       have H' := Am H
       clear H
       have hnb37 := NB355_351.out
       have hnc37 := NB351_355.out
       obtain ⟨Z38_0, Z38_1, Z38_2, Z38_3, Z38_4⟩ := Xc5 B355
       obtain ⟨F38_0, F38_1, F38_2, F38_3, F38_4⟩ := Xf5 B355
       obtain ⟨Z39_0, Z39_1, Z39_2⟩ := Xc3 B351
       obtain ⟨F39_0, F39_1, F39_2⟩ := Xf3 B351
       obtain ⟨ad357, A357_4, c357_4, e357, p357, q357, hx357_0, hx357_1, hx357_2, hx357_3, hx357_4, HC357_4, HR357_4⟩ := at_B43 HR0_2 (ji22) Xa Xa HB
       obtain rfl : ad354 = ad357 := (by injection e357)
       (try go_wp2)
       repeat (go_quiet (first | (go_at_call 66; (with_reducible refine (impl_within.calls ((rd_T43 l0_2 x24_2).f0) 1 (wrap64 (a0_1 - 1)) true _ A19.out).mono ?_); rintro e w' ⟨rfl, ⟨nd, rfl⟩⟩; (try exact Xdd)) | (go_at_call 66; (with_reducible refine (impl_within.calls ((rd_T43 l0_2 x24_2).f1) 1 8 true _ A29.out).mono ?_); rintro e w' ⟨rfl, ⟨nd, rfl⟩⟩; (try exact Xdd)) | (go_at_call 66; (with_reducible refine (impl_within.calls ((rd_T43 l0_2 x24_2).f2) 0 99 true _ A31.out).mono ?_); rintro e w' ⟨rfl, ⟨nd, rfl⟩⟩; (try exact Xdd))); try go_wp2)
       go_meet
       case rel => exact ⟨_, (decide ((((rd_T43 l0_2 x24_2).f4).length : Int) > 12)), Xr, H', ⟨by have := HJ1.out; have := HK2.out; first | omega | exact Nat.le_refl _⟩, B351, B355, ⟨Xi⟩⟩
      replace c32 := Xbf c32
      subst c32
      try rw [if_neg Xft] at H
      have H' := Am H
      clear H
      have hnb40 := NB355_351.out
      have hnc40 := NB351_355.out
      obtain ⟨Z41_0, Z41_1, Z41_2, Z41_3, Z41_4⟩ := Xc5 B355
      obtain ⟨F41_0, F41_1, F41_2, F41_3, F41_4⟩ := Xf5 B355
      obtain ⟨Z42_0, Z42_1, Z42_2⟩ := Xc3 B351
      obtain ⟨F42_0, F42_1, F42_2⟩ := Xf3 B351
      obtain ⟨ad357, A357_4, c357_4, e357, p357, q357, hx357_0, hx357_1, hx357_2, hx357_3, hx357_4, HC357_4, HR357_4⟩ := at_B43 HR0_2 (ji22) Xa Xa HB
      obtain rfl : ad354 = ad357 := (by injection e357)
      (try go_wp2)
      repeat (go_quiet (first | (go_at_call 66; (with_reducible refine (impl_within.calls ((rd_T43 l0_2 x24_2).f0) 1 (wrap64 (a0_1 - 1)) true _ A19.out).mono ?_); rintro e w' ⟨rfl, ⟨nd, rfl⟩⟩; (try exact Xdd)) | (go_at_call 66; (with_reducible refine (impl_within.calls ((rd_T43 l0_2 x24_2).f1) 1 8 true _ A29.out).mono ?_); rintro e w' ⟨rfl, ⟨nd, rfl⟩⟩; (try exact Xdd)) | (go_at_call 66; (with_reducible refine (impl_within.calls ((rd_T43 l0_2 x24_2).f2) 0 99 false _ A31.out).mono ?_); rintro e w' ⟨rfl, ⟨nd, rfl⟩⟩; (try exact Xdd))); try go_wp2)
      go_meet
      case rel => exact ⟨_, (true), Xr, H', ⟨by have := HJ1.out; have := HK2.out; first | omega | exact Nat.le_refl _⟩, B351, B355, ⟨Xi⟩⟩
     replace c30 := Xbf c30
     subst c30
     try rw [if_neg Xft] at H
     have H' := Am H
     clear H
     have hnb43 := NB355_351.out
     have hnc43 := NB351_355.out
     obtain ⟨Z44_0, Z44_1, Z44_2, Z44_3, Z44_4⟩ := Xc5 B355
     obtain ⟨F44_0, F44_1, F44_2, F44_3, F44_4⟩ := Xf5 B355
     obtain ⟨Z45_0, Z45_1, Z45_2⟩ := Xc3 B351
     obtain ⟨F45_0, F45_1, F45_2⟩ := Xf3 B351
     obtain ⟨ad357, A357_4, c357_4, e357, p357, q357, hx357_0, hx357_1, hx357_2, hx357_3, hx357_4, HC357_4, HR357_4⟩ := at_B43 HR0_2 (ji22) Xa Xa HB
     obtain rfl : ad354 = ad357 := (by injection e357)
     (try go_wp2)
     repeat (go_quiet (first | (go_at_call 66; (with_reducible refine (impl_within.calls ((rd_T43 l0_2 x24_2).f0) 1 (wrap64 (a0_1 - 1)) true _ A19.out).mono ?_); rintro e w' ⟨rfl, ⟨nd, rfl⟩⟩; (try exact Xdd)) | (go_at_call 66; (with_reducible refine (impl_within.calls ((rd_T43 l0_2 x24_2).f1) 1 8 false _ A29.out).mono ?_); rintro e w' ⟨rfl, ⟨nd, rfl⟩⟩; (try exact Xdd))); try go_wp2)
     go_meet
     case rel => exact ⟨_, (true), Xr, H', ⟨by have := HJ1.out; have := HK2.out; first | omega | exact Nat.le_refl _⟩, B351, B355, ⟨Xi⟩⟩
    have c21b0 : decide (0 < x24_2) = false := decide_eq_false c21
    clear c21
    (first | rw [c21b0] | (simp only [i64_w, i32_w]; rw [c21b0]) | skip)
    obtain ⟨t360, A46, H⟩ := Xbi H
    try dsimp only at H
    by_cases c47 : t360 = true
    ·subst c47
     try rw [if_pos rfl] at H
     obtain ⟨t361, A48, H⟩ := Xbi H
     try dsimp only at H
     by_cases c49 : t361 = true
     ·subst c49
      try rw [if_pos rfl] at H
      obtain ⟨c50, H⟩ | ⟨c50, H⟩ := Xiu H
      ·have c50b0 : decide (20 < (((rd_T43 l0_2 x24_2).f3).size : Int)) = true := decide_eq_true c50
       have c50b1 : decide (20 < ((rd_T43 l0_2 x24_2).f3).size) = true := decide_eq_true (by omega)
       clear c50
       have H' := Am H
       clear H
       have hnb51 := NB355_351.out
       have hnc51 := NB351_355.out
       obtain ⟨Z52_0, Z52_1, Z52_2, Z52_3, Z52_4⟩ := Xc5 B355
       obtain ⟨F52_0, F52_1, F52_2, F52_3, F52_4⟩ := Xf5 B355
       obtain ⟨Z53_0, Z53_1, Z53_2⟩ := Xc3 B351
       obtain ⟨F53_0, F53_1, F53_2⟩ := Xf3 B351
       (try go_wp2)
       repeat (go_quiet (first | (go_at_call 66; (with_reducible refine (impl_within.calls ((rd_T43 l0_2 x24_2).f0) 1 (wrap64 (a0_1 - 1)) true _ A19.out).mono ?_); rintro e w' ⟨rfl, ⟨nd, rfl⟩⟩; (try exact Xdd)) | (go_at_call 66; (with_reducible refine (impl_within.calls ((rd_T43 l0_2 x24_2).f1) 1 8 true _ A46.out).mono ?_); rintro e w' ⟨rfl, ⟨nd, rfl⟩⟩; (try exact Xdd)) | (go_at_call 66; (with_reducible refine (impl_within.calls ((rd_T43 l0_2 x24_2).f2) 0 99 true _ A48.out).mono ?_); rintro e w' ⟨rfl, ⟨nd, rfl⟩⟩; (try exact Xdd))); try go_wp2)
       go_meet
       case rel => exact ⟨_, (true), Xr, H', ⟨by have := HJ1.out; have := HK2.out; first | omega | exact Nat.le_refl _⟩, B351, B355, ⟨Xi⟩⟩
      have c50b0 : decide (20 < (((rd_T43 l0_2 x24_2).f3).size : Int)) = false := decide_eq_false c50
      have c50b1 : decide (20 < ((rd_T43 l0_2 x24_2).f3).size) = false := decide_eq_false (by omega)
      clear c50
      have H' := Am H
      clear H
      have hnb54 := NB355_351.out
      have hnc54 := NB351_355.out
      obtain ⟨Z55_0, Z55_1, Z55_2, Z55_3, Z55_4⟩ := Xc5 B355
      obtain ⟨F55_0, F55_1, F55_2, F55_3, F55_4⟩ := Xf5 B355
      obtain ⟨Z56_0, Z56_1, Z56_2⟩ := Xc3 B351
      obtain ⟨F56_0, F56_1, F56_2⟩ := Xf3 B351
      (try go_wp2)
      repeat (go_quiet (first | (go_at_call 66; (with_reducible refine (impl_within.calls ((rd_T43 l0_2 x24_2).f0) 1 (wrap64 (a0_1 - 1)) true _ A19.out).mono ?_); rintro e w' ⟨rfl, ⟨nd, rfl⟩⟩; (try exact Xdd)) | (go_at_call 66; (with_reducible refine (impl_within.calls ((rd_T43 l0_2 x24_2).f1) 1 8 true _ A46.out).mono ?_); rintro e w' ⟨rfl, ⟨nd, rfl⟩⟩; (try exact Xdd)) | (go_at_call 66; (with_reducible refine (impl_within.calls ((rd_T43 l0_2 x24_2).f2) 0 99 true _ A48.out).mono ?_); rintro e w' ⟨rfl, ⟨nd, rfl⟩⟩; (try exact Xdd))); try go_wp2)
      go_meet
      case rel => exact ⟨_, (decide ((((rd_T43 l0_2 x24_2).f4).length : Int) > 12)), Xr, H', ⟨by have := HJ1.out; have := HK2.out; first | omega | exact Nat.le_refl _⟩, B351, B355, ⟨Xi⟩⟩
     replace c49 := Xbf c49
     subst c49
     try rw [if_neg Xft] at H
     have H' := Am H
     clear H
     have hnb57 := NB355_351.out
     have hnc57 := NB351_355.out
     obtain ⟨Z58_0, Z58_1, Z58_2, Z58_3, Z58_4⟩ := Xc5 B355
     obtain ⟨F58_0, F58_1, F58_2, F58_3, F58_4⟩ := Xf5 B355
     obtain ⟨Z59_0, Z59_1, Z59_2⟩ := Xc3 B351
     obtain ⟨F59_0, F59_1, F59_2⟩ := Xf3 B351
     (try go_wp2)
     repeat (go_quiet (first | (go_at_call 66; (with_reducible refine (impl_within.calls ((rd_T43 l0_2 x24_2).f0) 1 (wrap64 (a0_1 - 1)) true _ A19.out).mono ?_); rintro e w' ⟨rfl, ⟨nd, rfl⟩⟩; (try exact Xdd)) | (go_at_call 66; (with_reducible refine (impl_within.calls ((rd_T43 l0_2 x24_2).f1) 1 8 true _ A46.out).mono ?_); rintro e w' ⟨rfl, ⟨nd, rfl⟩⟩; (try exact Xdd)) | (go_at_call 66; (with_reducible refine (impl_within.calls ((rd_T43 l0_2 x24_2).f2) 0 99 false _ A48.out).mono ?_); rintro e w' ⟨rfl, ⟨nd, rfl⟩⟩; (try exact Xdd))); try go_wp2)
     go_meet
     case rel => exact ⟨_, (true), Xr, H', ⟨by have := HJ1.out; have := HK2.out; first | omega | exact Nat.le_refl _⟩, B351, B355, ⟨Xi⟩⟩
    replace c47 := Xbf c47
    subst c47
    try rw [if_neg Xft] at H
    have H' := Am H
    clear H
    have hnb60 := NB355_351.out
    have hnc60 := NB351_355.out
    obtain ⟨Z61_0, Z61_1, Z61_2, Z61_3, Z61_4⟩ := Xc5 B355
    obtain ⟨F61_0, F61_1, F61_2, F61_3, F61_4⟩ := Xf5 B355
    obtain ⟨Z62_0, Z62_1, Z62_2⟩ := Xc3 B351
    obtain ⟨F62_0, F62_1, F62_2⟩ := Xf3 B351
    (try go_wp2)
    repeat (go_quiet (first | (go_at_call 66; (with_reducible refine (impl_within.calls ((rd_T43 l0_2 x24_2).f0) 1 (wrap64 (a0_1 - 1)) true _ A19.out).mono ?_); rintro e w' ⟨rfl, ⟨nd, rfl⟩⟩; (try exact Xdd)) | (go_at_call 66; (with_reducible refine (impl_within.calls ((rd_T43 l0_2 x24_2).f1) 1 8 false _ A46.out).mono ?_); rintro e w' ⟨rfl, ⟨nd, rfl⟩⟩; (try exact Xdd))); try go_wp2)
    go_meet
    case rel => exact ⟨_, (true), Xr, H', ⟨by have := HJ1.out; have := HK2.out; first | omega | exact Nat.le_refl _⟩, B351, B355, ⟨Xi⟩⟩
   replace c20 := Xbf c20
   subst c20
   try rw [if_neg Xft] at H
   have H' := Am H
   clear H
   have hnb63 := NB355_351.out
   have hnc63 := NB351_355.out
   obtain ⟨Z64_0, Z64_1, Z64_2, Z64_3, Z64_4⟩ := Xc5 B355
   obtain ⟨F64_0, F64_1, F64_2, F64_3, F64_4⟩ := Xf5 B355
   obtain ⟨Z65_0, Z65_1, Z65_2⟩ := Xc3 B351
   obtain ⟨F65_0, F65_1, F65_2⟩ := Xf3 B351
   (try go_wp2)
   repeat (go_quiet (first | (go_at_call 66; (with_reducible refine (impl_within.calls ((rd_T43 l0_2 x24_2).f0) 1 (wrap64 (a0_1 - 1)) false _ A19.out).mono ?_); rintro e w' ⟨rfl, ⟨nd, rfl⟩⟩; (try exact Xdd))); try go_wp2)
   go_meet
   case rel => exact ⟨_, (true), Xr, H', ⟨by have := HJ1.out; have := HK2.out; first | omega | exact Nat.le_refl _⟩, B351, B355, ⟨Xi⟩⟩
  clear HC14
  (try clear c9); (try clear c11); (try clear c11b0); (try clear c12); (try clear c12b0); (try clear c13); (try clear c13b0); (try clear Z10_0); (try clear Z10_1); (try clear Z10_2); (try clear Z17_0); (try clear Z17_1); (try clear Z17_2); (try clear Z17_3); (try clear Z17_4); (try clear F10_0); (try clear F10_1); (try clear F10_2); (try clear F17_0); (try clear F17_1); (try clear F17_2); (try clear F17_3); (try clear F17_4); (try clear hx354_0); (try clear hx354_1); (try clear hx354_2); (try clear hx354_3); (try clear hx354_4); (try clear p354); (try clear q354)
  obtain ⟨kq, x75_13, rfl, HA, HJ13, B351, B355, HB⟩ := hcut
  cases kq with | zero => cases HA.out | succ kj13 => ?_
  have H := HA.out
  clear HA
  simp only [impl_DocOK.j2] at H
  by_cases c66 : x75_13 = true
  ·subst c66
   try rw [if_pos rfl] at H
   obtain rfl := Xsi H
   go_wp2
   go_ret
   exact ⟨Xe, Xi⟩
  replace c66 := Xbf c66
  subst c66
  try rw [if_neg Xft] at H
  have H' := Am H
  clear H
  go_wp2
  go_roundg kj13
  case measure => have := HJ1.out; have := HK2.out; have := HJ13.out; omega
  case rel => exact ⟨(wrap64 (x24_2 + 1)), Xr, H', ⟨by have := HJ1.out; have := HK2.out; have := HJ13.out; omega⟩, B351, ⟨Xi⟩⟩
 have H' := Am H
 clear H
 go_wp2_with (first | ((with_reducible refine gate_dst (N := 77) rfl ?_); (try (refine gate_guard (by rfl) ?_; dsimp only)); refine XM.make_event Value.bool ?hg (N := 77) ?hd 78 ?hr ?_; (case hd => rfl); (case hg => rfl); (case hr => rfl); intro gb362 hg w67 hbox hb; have B362 := Am (hbox); have GE362 := Xge hg Xi; replace HB := Xhb hb; have NB351_362 := Xnb hg B351; have NB362_351 := Xns NB351_362; replace B351 := Xbb B351 hb; clear hb hbox hg; have hnb68 := NB351_362.out; have hnc68 := NB362_351.out; obtain ⟨Z69_0, Z69_1, Z69_2⟩ := Xc3 B351; obtain ⟨F69_0, F69_1, F69_2⟩ := Xf3 B351))
 go_loopg [81] k2 (fun kq v81 w' => ∃ (x81_3 : Int) (x363000_3 : List (Int × Bool)), v81 = .int .i64 x81_3 ∧ Aside0 (impl_DocOK.l1 kq l0_2 (l0_2.length : Int) x81_3 a0_0 a0_1 l0_2 x363000_3 = some r) ∧ Aside0 (kq ≤ k2) ∧ Aside0 (w'.heap[gb351]? = some (.cells #[.int .i64 a0_0, .int .i64 a0_1, (.slice A0_2 l0_2.length c0_2)] 29 (0, 0))) ∧ Aside0 (w'.heap[gb362]? = some (XM.mapObj Value.bool x363000_3)) ∧ Aside0 (Below w.heap.size w w'))
 case atStart => exact ⟨(0), (([] : List (Int × Bool))), Xr, H', Xkr, B351, B362, ⟨Xi⟩⟩
 clear H'
 (try clear c9); (try clear c11); (try clear c11b0); (try clear Z10_0); (try clear Z10_1); (try clear Z10_2); (try clear Z69_0); (try clear Z69_1); (try clear Z69_2); (try clear F10_0); (try clear F10_1); (try clear F10_2); (try clear F69_0); (try clear F69_1); (try clear F69_2)
 obtain ⟨x81_3, x363000_3, rfl, HA, HK3, B351, B362, HB⟩ := hrel
 cases gk with | zero => cases HA.out | succ k3 => ?_
 have H := HA.out
 clear HA
 simp only [impl_DocOK.l1] at H
 obtain ⟨c70b0, H⟩ | ⟨c70b0, H⟩ := Xit H
 ·obtain ⟨c71b0, H⟩ := Xid H
  obtain ⟨c72b0, H⟩ := Xid H
  have H' := Am H
  clear H
  obtain ⟨ad363, A363_4, c363_4, e363, p363, q363, hx363_0, hx363_1, hx363_2, hx363_3, hx363_4, HC363_4, HR363_4⟩ := at_B43 HR0_2 x81_3 Xa Xa HB
  cases e363
  go_wp2_with (first | ((with_reducible refine gate_dst (N := 7) rfl ?_); (try (refine gate_guard (by rfl) ?_; dsimp only)); refine Xbx 7 #[.int .i64 0, .int .i64 0, .int .i64 0, .string (⟨#[]⟩ : ByteArray), .slice none 0 0] 43 ?_; intro gb364 hg w73 B364 GE364 hb; replace HB := Xhb hb; have NB351_364 := Xnb hg B351; have NB364_351 := Xns NB351_364; replace B351 := Xbb B351 hb; have NB362_364 := Xnb hg B362; have NB364_362 := Xns NB362_364; replace B362 := Xbb B362 hb; clear hb hg; have hnb74 := NB364_351.out; have hnc74 := NB351_364.out; have hnb75 := NB364_362.out; have hnc75 := NB362_364.out; obtain ⟨Z76_0, Z76_1, Z76_2, Z76_3, Z76_4⟩ := Xc5 B364; obtain ⟨F76_0, F76_1, F76_2, F76_3, F76_4⟩ := Xf5 B364) | ((with_reducible refine gate_store (t := 43) (p := 7) rfl ?_); refine store_event (t := 43) (p := 7) (v := ?vo_w77) (w1 := (((((w73.setCell ⟨gb364, 0, none⟩ (.int .i64 ((rd_T43 l0_2 x81_3).f0))).setCell ⟨gb364, 1, none⟩ (.int .i64 ((rd_T43 l0_2 x81_3).f1))).setCell ⟨gb364, 2, none⟩ (.int .i64 ((rd_T43 l0_2 x81_3).f2))).setCell ⟨gb364, 3, none⟩ (.string ((rd_T43 l0_2 x81_3).f3))).setCell ⟨gb364, 4, none⟩ (.slice A363_4 ((rd_T43 l0_2 x81_3).f4).length c363_4))) ?hg ?ho ?hn ?hr ?_; (case ho => rfl); (case hg => rfl); (case hn => rfl); (case hr => first | (go_simp; done) | (go_simp; rfl)); intro w77 hw; have n0_ : Aside0 (w77.heap[gb351]? = some (.cells #[.int .i64 a0_0, .int .i64 a0_1, .slice (some ad363) l0_2.length c0_2] 29 (0, 0))) := ⟨(by rw [hw]; exact (by refine Xu ?_; refine blk_far ?_ NB351_364.out _; refine Xu ?_; refine blk_far ?_ NB351_364.out _; refine Xu ?_; refine blk_far ?_ NB351_364.out _; refine Xu ?_; refine blk_far ?_ NB351_364.out _; refine Xu ?_; refine blk_far ?_ NB351_364.out _; refine Xu ?_; exact B351.out))⟩; have n1_ : Aside0 (w77.heap[gb362]? = some (XM.mapObj Value.bool x363000_3)) := ⟨(by rw [hw]; exact (by refine Xu ?_; refine XM.blk_far ?_ NB362_364.out _; refine Xu ?_; refine XM.blk_far ?_ NB362_364.out _; refine Xu ?_; refine XM.blk_far ?_ NB362_364.out _; refine Xu ?_; refine XM.blk_far ?_ NB362_364.out _; refine Xu ?_; refine XM.blk_far ?_ NB362_364.out _; refine Xu ?_; exact B362.out))⟩; have n2_ : Aside0 (w77.heap[gb364]? = some (.cells #[.int .i64 ((rd_T43 l0_2 x81_3).f0), .int .i64 ((rd_T43 l0_2 x81_3).f1), .int .i64 ((rd_T43 l0_2 x81_3).f2), .string ((rd_T43 l0_2 x81_3).f3), .slice A363_4 ((rd_T43 l0_2 x81_3).f4).length c363_4] 43 (0, 0))) := ⟨(by rw [hw]; exact (by refine Xu ?_; refine blk_put (cs := #[.int .i64 ((rd_T43 l0_2 x81_3).f0), .int .i64 ((rd_T43 l0_2 x81_3).f1), .int .i64 ((rd_T43 l0_2 x81_3).f2), .string ((rd_T43 l0_2 x81_3).f3), .slice none 0 0]) ?_ 4 _ rfl; refine Xu ?_; refine blk_put (cs := #[.int .i64 ((rd_T43 l0_2 x81_3).f0), .int .i64 ((rd_T43 l0_2 x81_3).f1), .int .i64 ((rd_T43 l0_2 x81_3).f2), .string (⟨#[]⟩ : ByteArray), .slice none 0 0]) ?_ 3 _ rfl; refine Xu ?_; refine blk_put (cs := #[.int .i64 ((rd_T43 l0_2 x81_3).f0), .int .i64 ((rd_T43 l0_2 x81_3).f1), .int .i64 0, .string (⟨#[]⟩ : ByteArray), .slice none 0 0]) ?_ 2 _ rfl; refine Xu ?_; refine blk_put (cs := #[.int .i64 ((rd_T43 l0_2 x81_3).f0), .int .i64 0, .int .i64 0, .string (⟨#[]⟩ : ByteArray), .slice none 0 0]) ?_ 1 _ rfl; refine Xu ?_; refine blk_put (cs := #[.int .i64 0, .int .i64 0, .int .i64 0, .string (⟨#[]⟩ : ByteArray), .slice none 0 0]) ?_ 0 _ rfl; refine Xu ?_; exact B364.out))⟩; have n3_ : Aside0 (Below w.heap.size w w77) := ⟨(by rw [hw]; exact Xi)⟩; clear hw; clear B351; clear B362; clear B364; clear HB; have B351 := n0_; have B362 := n1_; have B364 := n2_; have HB := n3_; clear n0_ n1_ n2_ n3_; obtain ⟨Z78_0, Z78_1, Z78_2, Z78_3, Z78_4⟩ := Xc5 B364; obtain ⟨F78_0, F78_1, F78_2, F78_3, F78_4⟩ := Xf5 B364))
  go_loopg [88] k3 (fun kq v88 w' => ∃ (x88_4 : Int) (x363000_4 : List (Int × Bool)), v88 = .int .i64 x88_4 ∧ Aside0 (impl_DocOK.l2 kq l0_2 (l0_2.length : Int) x81_3 ((rd_T43 l0_2 x81_3).f4) (((rd_T43 l0_2 x81_3).f4).length : Int) x88_4 a0_0 a0_1 l0_2 x363000_4 = some r) ∧ Aside0 (kq ≤ k3) ∧ Aside0 (w'.heap[gb351]? = some (.cells #[.int .i64 a0_0, .int .i64 a0_1, (.slice (some ad363) l0_2.length c0_2)] 29 (0, 0))) ∧ Aside0 (w'.heap[gb362]? = some (XM.mapObj Value.bool x363000_4)) ∧ Aside0 (w'.heap[gb364]? = some (.cells #[.int .i64 ((rd_T43 l0_2 x81_3).f0), .int .i64 ((rd_T43 l0_2 x81_3).f1), .int .i64 ((rd_T43 l0_2 x81_3).f2), .string ((rd_T43 l0_2 x81_3).f3), (.slice A363_4 ((rd_T43 l0_2 x81_3).f4).length c363_4)] 43 (0, 0))) ∧ Aside0 (Below w.heap.size w w'))
  case atStart => exact ⟨(0), (x363000_3), Xr, H', Xkr, B351, B362, B364, ⟨Xi⟩⟩
  clear H'
  (try clear c9); (try clear c11); (try clear c11b0); (try clear c70); (try clear c70b0); (try clear c71); (try clear c71b0); (try clear c72); (try clear c72b0); (try clear Z10_0); (try clear Z10_1); (try clear Z10_2); (try clear Z69_0); (try clear Z69_1); (try clear Z69_2); (try clear Z76_0); (try clear Z76_1); (try clear Z76_2); (try clear Z76_3); (try clear Z76_4); (try clear Z78_0); (try clear Z78_1); (try clear Z78_2); (try clear Z78_3); (try clear Z78_4); (try clear F10_0); (try clear F10_1); (try clear F10_2); (try clear F69_0); (try clear F69_1); (try clear F69_2); (try clear F76_0); (try clear F76_1); (try clear F76_2); (try clear F76_3); (try clear F76_4); (try clear F78_0); (try clear F78_1); (try clear F78_2); (try clear F78_3); (try clear F78_4); (try clear hx363_0); (try clear hx363_1); (try clear hx363_2); (try clear hx363_3); (try clear hx363_4); (try clear p363); (try clear q363)
  obtain ⟨x88_4, x363000_4, rfl, HA, HK4, B351, B362, B364, HB⟩ := hrel
  cases gk with | zero => cases HA.out | succ k4 => ?_
  have H := HA.out
  clear HA
  simp only [impl_DocOK.l2] at H
  obtain ⟨c79b0, H⟩ | ⟨c79b0, H⟩ := Xit H
  ·obtain ⟨c80b0, H⟩ := Xid H
   obtain ⟨c81b0, H⟩ := Xid H
   have HC82 := Am H
   clear H
   have p365 : 0 ≤ (x88_4 : Int) := Xo
   have q365 : x88_4 < (((rd_T43 l0_2 x81_3).f4).length : Int) := Xo
   obtain ⟨ad365, e365, hx365_0⟩ := Kd.at_int HR363_4.out x88_4 p365 q365
   cases e365
   replace hx365_0 := Xm HB hx365_0
   replace p365 := eq_true p365
   replace q365 := eq_true q365
   go_upto_region 16 with (fail)
   go_cut [105] (fun v105 wc => ∃ (kq : Nat) (x105_81 : Bool), v105 = .bool x105_81 ∧ Aside0 (impl_DocOK.j5 kq (rd ((rd_T43 l0_2 x81_3).f4) x88_4) l0_2 (l0_2.length : Int) x81_3 ((rd_T43 l0_2 x81_3).f4) (((rd_T43 l0_2 x81_3).f4).length : Int) x88_4 x105_81 a0_0 a0_1 l0_2 x363000_4 = some r) ∧ Aside0 (kq ≤ k4) ∧ Aside0 (wc.heap[gb351]? = some (.cells #[.int .i64 a0_0, .int .i64 a0_1, (.slice (some ad363) l0_2.length c0_2)] 29 (0, 0))) ∧ Aside0 (wc.heap[gb362]? = some (XM.mapObj Value.bool x363000_4)) ∧ Aside0 (wc.heap[gb364]? = some (.cells #[.int .i64 ((rd_T43 l0_2 x81_3).f0), .int .i64 ((rd_T43 l0_2 x81_3).f1), .int .i64 ((rd_T43 l0_2 x81_3).f2), .string ((rd_T43 l0_2 x81_3).f3), (.slice (some ad365) ((rd_T43 l0_2 x81_3).f4).length c363_4)] 43 (0, 0))) ∧ Aside0 (Below w.heap.size w wc))
   case first =>
    have H := HC82.out
    clear HC82
    obtain ⟨c83, H⟩ | ⟨c83, H⟩ := Xiu H
    ·have c83b0 : XM.get false x363000_4 (rd ((rd_T43 l0_2 x81_3).f4) x88_4) = true := c83
     clear c83
     (first | rw [c83b0] | (simp only [i64_w, i32_w]; rw [c83b0]) | skip)
     have H' := Am H
     clear H
     go_wp2_with (first | ((with_reducible refine gate_dst (N := 94) rfl ?_); (try (refine gate_guard (by rfl) ?_; dsimp only)); refine XM.lookup_event (enc := Value.bool) rfl (N := 94) rfl 78 _ _ rfl false (rd ((rd_T43 l0_2 x81_3).f4) x88_4) (g := gb362) (xs := x363000_4) rfl rfl (by first | (exact B362.out)) Try.underlying78 Try.underlying3 (by first | rfl | (go_simp; done) | (go_simp; rfl)) ?_))
     go_meet
     case rel => exact ⟨_, (true), Xr, H', ⟨by have := HJ1.out; have := HK2.out; have := HK3.out; have := HK4.out; first | omega | exact Nat.le_refl _⟩, B351, B362, B364, ⟨Xi⟩⟩
    have c83b0 : XM.get false x363000_4 (rd ((rd_T43 l0_2 x81_3).f4) x88_4) = false := by simpa using c83
    clear c83
    (first | rw [c83b0] | (simp only [i64_w, i32_w]; rw [c83b0]) | skip)
    obtain ⟨c84, H⟩ | ⟨c84, H⟩ := Xiu H
    ·have c84b0 : ((rd ((rd_T43 l0_2 x81_3).f4) x88_4) == a0_0) = true := beq_iff_eq.mpr c84
     have c84b1 : ((rd ((rd_T43 l0_2 x81_3).f4) x88_4) != a0_0) = false := bne_eq_false_iff_eq.mpr c84
     clear c84
     have H' := Am H
     clear H
     have hnb85 := NB351_362.out
     have hnc85 := NB362_351.out
     have hnb86 := NB351_364.out
     have hnc86 := NB364_351.out
     obtain ⟨Z87_0, Z87_1, Z87_2⟩ := Xc3 B351
     obtain ⟨F87_0, F87_1, F87_2⟩ := Xf3 B351
     go_wp2_with (first | ((with_reducible refine gate_dst (N := 94) rfl ?_); (try (refine gate_guard (by rfl) ?_; dsimp only)); refine XM.lookup_event (enc := Value.bool) rfl (N := 94) rfl 78 _ _ rfl false (rd ((rd_T43 l0_2 x81_3).f4) x88_4) (g := gb362) (xs := x363000_4) rfl rfl (by first | (exact B362.out)) Try.underlying78 Try.underlying3 (by first | rfl | (go_simp; done) | (go_simp; rfl)) ?_))
     go_meet
     case rel => exact ⟨_, (true), Xr, H', ⟨by have := HJ1.out; have := HK2.out; have := HK3.out; have := HK4.out; first | omega | exact Nat.le_refl _⟩, B351, B362, B364, ⟨Xi⟩⟩
    have c84b0 : ((rd ((rd_T43 l0_2 x81_3).f4) x88_4) == a0_0) = false := beq_eq_false_iff_ne.mpr c84
    have c84b1 : ((rd ((rd_T43 l0_2 x81_3).f4) x88_4) != a0_0) = true := bne_iff_ne.mpr c84
    obtain ⟨t366, A88, H⟩ := Xbi H
    try dsimp only at H
    have H' := Am H
    clear H
    have hnb89 := NB351_362.out
    have hnc89 := NB362_351.out
    have hnb90 := NB351_364.out
    have hnc90 := NB364_351.out
    obtain ⟨Z91_0, Z91_1, Z91_2⟩ := Xc3 B351
    obtain ⟨F91_0, F91_1, F91_2⟩ := Xf3 B351
    go_wp2_with (first | ((with_reducible refine gate_dst (N := 94) rfl ?_); (try (refine gate_guard (by rfl) ?_; dsimp only)); refine XM.lookup_event (enc := Value.bool) rfl (N := 94) rfl 78 _ _ rfl false (rd ((rd_T43 l0_2 x81_3).f4) x88_4) (g := gb362) (xs := x363000_4) rfl rfl (by first | (exact B362.out)) Try.underlying78 Try.underlying3 (by first | rfl | (go_simp; done) | (go_simp; rfl)) ?_) | (go_at_call 67; (with_reducible refine (impl_Doc_has.calls k4 gb351 a0_0 a0_1 (some ad363) c0_2 l0_2 (rd ((rd_T43 l0_2 x81_3).f4) x88_4) t366 _ ?s1 ?s2 ?s3 A88.out).mono ?_); (case s1 => exact B351.out); (case s2 => exact Xc HR0_2); (case s3 => exact HC0_2.out); rintro e w92 ⟨rfl, hb⟩; replace B351 := Xbb B351 hb; replace B362 := Xbb B362 hb; replace B364 := Xbb B364 hb; replace HB := Xhb hb; clear hb))
    go_meet
    case rel => exact ⟨_, (!t366), Xr, H', ⟨by have := HJ1.out; have := HK2.out; have := HK3.out; have := HK4.out; first | omega | exact Nat.le_refl _⟩, B351, B362, B364, ⟨Xi⟩⟩
   clear HC82
   (try clear c9); (try clear c11); (try clear c11b0); (try clear c70); (try clear c70b0); (try clear c71); (try clear c71b0); (try clear c72); (try clear c72b0); (try clear c79); (try clear c79b0); (try clear c80); (try clear c80b0); (try clear c81); (try clear c81b0); (try clear Z10_0); (try clear Z10_1); (try clear Z10_2); (try clear Z69_0); (try clear Z69_1); (try clear Z69_2); (try clear Z76_0); (try clear Z76_1); (try clear Z76_2); (try clear Z76_3); (try clear Z76_4); (try clear Z78_0); (try clear Z78_1); (try clear Z78_2); (try clear Z78_3); (try clear Z78_4); (try clear F10_0); (try clear F10_1); (try clear F10_2); (try clear F69_0); (try clear F69_1); (try clear F69_2); (try clear F76_0); (try clear F76_1); (try clear F76_2); (try clear F76_3); (try clear F76_4); (try clear F78_0); (try clear F78_1); (try clear F78_2); (try clear F78_3); (try clear F78_4); (try clear hx363_0); (try clear hx363_1); (try clear hx363_2); (try clear hx363_3); (try clear hx363_4); (try clear hx365_0); (try clear p363); (try clear p365); (try clear q363); (try clear q365)
   obtain ⟨kq, x105_81, rfl, HA, HJ81, B351, B362, B364, HB⟩ := hcut
   cases kq with | zero => cases HA.out | succ kj81 => ?_
   have H := HA.out
   clear HA
   simp only [impl_DocOK.j5] at H
   by_cases c93 : x105_81 = true
   ·subst c93
    try rw [if_pos rfl] at H
    obtain rfl := Xsi H
    go_wp2
    go_ret
    exact ⟨Xe, Xi⟩
   replace c93 := Xbf c93
   subst c93
   try rw [if_neg Xft] at H
   have H' := Am H
   clear H
   go_wp2_with (first | ((with_reducible refine XM.gate_update (t := 78) rfl ?_); refine XM.update_event (enc := Value.bool) rfl rfl 78 _ _ _ rfl (rd ((rd_T43 l0_2 x81_3).f4) x88_4) true (g := gb362) (xs := x363000_4) rfl rfl rfl (by first | (exact B362.out)) Try.underlying78 Try.underlying3 ?_; intro w94 hbox hg; replace B351 := Am (blk_grown (g := gb351) (o := .cells #[.int .i64 a0_0, .int .i64 a0_1, .slice (some ad363) l0_2.length c0_2] 29 (0, 0)) B351.out hg (fun e_ => NB351_362.out (Option.some.inj e_))); replace B362 := Am (hbox); replace B364 := Am (blk_grown (g := gb364) (o := .cells #[.int .i64 ((rd_T43 l0_2 x81_3).f0), .int .i64 ((rd_T43 l0_2 x81_3).f1), .int .i64 ((rd_T43 l0_2 x81_3).f2), .string ((rd_T43 l0_2 x81_3).f3), .slice (some ad365) ((rd_T43 l0_2 x81_3).f4).length c363_4] 43 (0, 0)) B364.out hg (fun e_ => NB364_362.out (Option.some.inj e_))); replace HB := Am (Below.grown Xi hg HB.out.size (fun k_ e_ => Option.some.inj e_ ▸ GE362.out)); clear hbox hg))
   go_roundg kj81
   case measure => have := HJ1.out; have := HK2.out; have := HK3.out; have := HK4.out; have := HJ81.out; omega
   case rel => exact ⟨(wrap64 (x88_4 + 1)), (XM.put x363000_4 (rd ((rd_T43 l0_2 x81_3).f4) x88_4) true), Xr, H', ⟨by have := HJ1.out; have := HK2.out; have := HK3.out; have := HK4.out; have := HJ81.out; omega⟩, B351, B362, B364, ⟨Xi⟩⟩
  have H' := Am H
  clear H
  go_wp2
  go_roundg k4
  case measure => have := HJ1.out; have := HK2.out; have := HK3.out; have := HK4.out; omega
  case rel => exact ⟨(wrap64 (x81_3 + 1)), (x363000_4), Xr, H', ⟨by have := HJ1.out; have := HK2.out; have := HK3.out; have := HK4.out; omega⟩, B351, B362, ⟨Xi⟩⟩
 have HC95 := Am H
 clear H
 go_upto_region 21 with (fail)
 go_cut [125] (fun v125 wc => ∃ (kq : Nat) (x125_94 : Bool), v125 = .bool x125_94 ∧ Aside0 (impl_DocOK.j6 kq x125_94 a0_0 a0_1 l0_2 = some r) ∧ Aside0 (kq ≤ k3) ∧ Aside0 (wc.heap[gb351]? = some (.cells #[.int .i64 a0_0, .int .i64 a0_1, (.slice A0_2 l0_2.length c0_2)] 29 (0, 0))) ∧ Aside0 (wc.heap[gb362]? = some (XM.mapObj Value.bool x363000_3)) ∧ Aside0 (Below w.heap.size w wc))
 case first =>
  have H := HC95.out
  clear HC95
  obtain ⟨t367, A96, H⟩ := Xbi H
  try dsimp only at H
  by_cases c97 : t367 = true
  ·subst c97
   try rw [if_pos rfl] at H
   obtain ⟨c98, H⟩ | ⟨c98, H⟩ := Xiu H
   ·have c98b0 : ((x363000_3.length : Int) == (wrap64 ((l0_2.length : Int) - 1))) = true := beq_iff_eq.mpr c98
    have c98b1 : ((x363000_3.length : Int) != (wrap64 ((l0_2.length : Int) - 1))) = false := bne_eq_false_iff_eq.mpr c98
    clear c98
    (first | rw [c98b0] | (simp only [i64_w, i32_w]; rw [c98b0]) | skip)
    obtain ⟨t368, A99, H⟩ := Xbi H
    try dsimp only at H
    have H' := Am H
    clear H
    have hnb100 := NB351_362.out
    have hnc100 := NB362_351.out
    obtain ⟨Z101_0, Z101_1, Z101_2⟩ := Xc3 B351
    obtain ⟨F101_0, F101_1, F101_2⟩ := Xf3 B351
    go_wp2_with (first | ((with_reducible refine gate_callee (f := 67) rfl ?_); refine Xgo 112 Try.func67 #[.pointer (some ⟨gb351, 0, none⟩), .int .i64 a0_0] ?_; (with_reducible refine (impl_Doc_has.calls k3 gb351 a0_0 a0_1 A0_2 c0_2 l0_2 a0_0 true _ ?s1 ?s2 ?s3 A96.out).mono ?_); (case s1 => exact B351.out); (case s2 => exact Xc HR0_2); (case s3 => exact HC0_2.out); rintro e w102 ⟨rfl, hb⟩; refine ⟨_, rfl, ?_⟩; replace B351 := Xbb B351 hb; replace B362 := Xbb B362 hb; replace HB := Xhb hb; clear hb; obtain ⟨Z103_0, Z103_1, Z103_2⟩ := Xc3 B351; obtain ⟨F103_0, F103_1, F103_2⟩ := Xf3 B351) | ((with_reducible refine gate_dst (N := 116) rfl ?_); (try (refine gate_guard (by rfl) ?_; dsimp only)); refine XM.len_event (enc := Value.bool) rfl (N := 116) rfl 78 _ rfl (g := gb362) (xs := x363000_3) rfl (by first | (exact B362.out)) Try.underlying78 ?_) | (go_at_call 68; (with_reducible refine (impl_Doc_isDeep.calls k3 gb351 a0_0 a0_1 A0_2 c0_2 l0_2 t368 _ ?s1 ?s2 ?s3 A99.out).mono ?_); (case s1 => exact B351.out); (case s2 => exact Xc HR0_2); (case s3 => exact HC0_2.out); rintro e w104 ⟨rfl, hb⟩; replace B351 := Xbb B351 hb; replace B362 := Xbb B362 hb; replace HB := Xhb hb; clear hb))
    go_meet
    case rel => exact ⟨_, (t368), Xr, H', ⟨by have := HJ1.out; have := HK2.out; have := HK3.out; first | omega | exact Nat.le_refl _⟩, B351, B362, ⟨Xi⟩⟩
   have c98b0 : ((x363000_3.length : Int) == (wrap64 ((l0_2.length : Int) - 1))) = false := beq_eq_false_iff_ne.mpr c98
   have c98b1 : ((x363000_3.length : Int) != (wrap64 ((l0_2.length : Int) - 1))) = true := bne_iff_ne.mpr c98
   (first | rw [c98b0] | (simp only [i64_w, i32_w]; rw [c98b0]) | skip)
   have H' := Am H
   clear H
   have hnb105 := NB351_362.out
   have hnc105 := NB362_351.out
   obtain ⟨Z106_0, Z106_1, Z106_2⟩ := Xc3 B351
   obtain ⟨F106_0, F106_1, F106_2⟩ := Xf3 B351
   go_wp2_with (first | ((with_reducible refine gate_callee (f := 67) rfl ?_); refine Xgo 112 Try.func67 #[.pointer (some ⟨gb351, 0, none⟩), .int .i64 a0_0] ?_; (with_reducible refine (impl_Doc_has.calls k3 gb351 a0_0 a0_1 A0_2 c0_2 l0_2 a0_0 true _ ?s1 ?s2 ?s3 A96.out).mono ?_); (case s1 => exact B351.out); (case s2 => exact Xc HR0_2); (case s3 => exact HC0_2.out); rintro e w107 ⟨rfl, hb⟩; refine ⟨_, rfl, ?_⟩; replace B351 := Xbb B351 hb; replace B362 := Xbb B362 hb; replace HB := Xhb hb; clear hb; obtain ⟨Z108_0, Z108_1, Z108_2⟩ := Xc3 B351; obtain ⟨F108_0, F108_1, F108_2⟩ := Xf3 B351) | ((with_reducible refine gate_dst (N := 116) rfl ?_); (try (refine gate_guard (by rfl) ?_; dsimp only)); refine XM.len_event (enc := Value.bool) rfl (N := 116) rfl 78 _ rfl (g := gb362) (xs := x363000_3) rfl (by first | (exact B362.out)) Try.underlying78 ?_))
   go_meet
   case rel => exact ⟨_, (true), Xr, H', ⟨by have := HJ1.out; have := HK2.out; have := HK3.out; first | omega | exact Nat.le_refl _⟩, B351, B362, ⟨Xi⟩⟩
  replace c97 := Xbf c97
  subst c97
  try rw [if_neg Xft] at H
  have H' := Am H
  clear H
  have hnb109 := NB351_362.out
  have hnc109 := NB362_351.out
  obtain ⟨Z110_0, Z110_1, Z110_2⟩ := Xc3 B351
  obtain ⟨F110_0, F110_1, F110_2⟩ := Xf3 B351
  go_wp2_with (first | ((with_reducible refine gate_callee (f := 67) rfl ?_); refine Xgo 112 Try.func67 #[.pointer (some ⟨gb351, 0, none⟩), .int .i64 a0_0] ?_; (with_reducible refine (impl_Doc_has.calls k3 gb351 a0_0 a0_1 A0_2 c0_2 l0_2 a0_0 false _ ?s1 ?s2 ?s3 A96.out).mono ?_); (case s1 => exact B351.out); (case s2 => exact Xc HR0_2); (case s3 => exact HC0_2.out); rintro e w111 ⟨rfl, hb⟩; refine ⟨_, rfl, ?_⟩; replace B351 := Xbb B351 hb; replace B362 := Xbb B362 hb; replace HB := Xhb hb; clear hb))
  go_meet
  case rel => exact ⟨_, (true), Xr, H', ⟨by have := HJ1.out; have := HK2.out; have := HK3.out; first | omega | exact Nat.le_refl _⟩, B351, B362, ⟨Xi⟩⟩
 clear HC95
 (try clear c9); (try clear c11); (try clear c11b0); (try clear c70); (try clear c70b0); (try clear Z10_0); (try clear Z10_1); (try clear Z10_2); (try clear Z69_0); (try clear Z69_1); (try clear Z69_2); (try clear F10_0); (try clear F10_1); (try clear F10_2); (try clear F69_0); (try clear F69_1); (try clear F69_2)
 obtain ⟨kq, x125_94, rfl, HA, HJ94, B351, B362, HB⟩ := hcut
 cases kq with | zero => cases HA.out | succ kj94 => ?_
 have H := HA.out
 clear HA
 simp only [impl_DocOK.j6] at H
 by_cases c112 : x125_94 = true
 ·subst c112
  try rw [if_pos rfl] at H
  obtain rfl := Xsi H
  go_wp2
  go_ret
  exact ⟨Xe, Xi⟩
 replace c112 := Xbf c112
 subst c112
 try rw [if_neg Xft] at H
 obtain ⟨t369, A113, H⟩ := Xbi H
 try dsimp only at H
 obtain rfl := Xsi H
 try go_wp2_with (fail)
 replace B351 := Xbd B351
 replace B362 := Xbd B362
 replace HB := Xhd HB
 refine Sx 9 (fun w' => w'.cell? ⟨gb351, 0, none⟩ = some (.int .i64 a0_0) ∧ w'.cell? ⟨gb351, 1, none⟩ = some (.int .i64 a0_1) ∧ w'.cell? ⟨gb351, 2, none⟩ = some (.slice A0_2 l0_2.length c0_2)) ⟨Xk B351 0, Xk B351 1, Xk B351 2⟩ (fun hHeld => ?_); refine with_tabW impl_DocOK.tab23 impl_DocOK.bits23 (fun HT_ HW_ => ?_)
 generalize wc.drew = w114 at B351 B362 HB hHeld ⊢
 refine Pu 0 126 9 1 ?_
 refine Pu 4 130 9 17 ?_
 refine Ta 1 127 9 19 ?_
 refine Ta 5 131 9 51 ?_
 refine Pu 6 132 9 115 ?_
 refine On 2 128 9 119 (fun K hK => ?_)
 refine Gs Try.func64 #[.pointer (some ⟨gb351, 0, none⟩), .slice none 0 0, .int .i64 a0_0] ?_
 refine (impl_Doc_order.calls kj94 gb351 a0_0 a0_1 A0_2 c0_2 l0_2 (fun k_ => some k_ = (.slice none 0 0 : Value).ownBlock) (.slice none 0 0) ([] : List Int) a0_0 t369 w _ ?s1 ?s2 ?s3 ?s4 ?s5 A113.out).mono ?_
 (case s1 => exact Xi)
 (case s2 => exact B351.out)
 (case s3 => exact Kd.C_kept_came k43_heap HR0_2.out Xi (fun k_ hs_ => (fun e_ => by simp [Value.ownBlock] at e_) hs_))
 (case s4 => exact HC0_2.out)
 (case s5 => exact Kd.R_nil _ _ _ _ _)
 rintro e w115 ⟨v370, rfl, ho0, hb, hkp⟩
 refine ⟨_, rfl, ?_⟩
 replace B351 := Am (blk_kept B351.out hkp (fun hs_ => (fun e_ => by simp [Value.ownBlock] at e_) hs_))
 replace B362 := Am (blk_kept B362.out hkp (fun hs_ => (fun e_ => by simp [Value.ownBlock] at e_) hs_))
 have HO371 := Am (Kd.R_mono (ok' := fun k_ => True) ho0 (fun k_ hk_ => trivial))
 replace HB := Am (hb)
 try clear hb
 try clear hkp
 try clear ho0
 obtain ⟨Ao116, co116, eo116⟩ := Kd.R_slice HO371.out
 (first | subst eo116 | (injection eo116 with f1_ f2_ f3_; have f4_ := f1_.symm; have f5_ := f3_.symm; clear f1_ f2_ f3_; subst f4_; subst f5_))
 refine hK.out _ _ ⟨Xk B351 0, Xk B351 1, Xk B351 2⟩ (fun hHeld => ?_)
 clear hK K
 refine Xno ?_
 refine Pu 3 129 9 127 ?_
 refine Pu 7 133 9 255 ?_
 refine Pu 8 2 9 511 ?_
 refine Dn ?_
 try go_wp2_with (fail)
 go_ret
 exact ⟨Xe, Xi⟩
end Go.Proofs.Ytpdhccdmbdbdpaa.XA
section
namespace Go.Proofs.Ytpdhccdmbdbdpaa.XA
set_option linter.unusedVariables false
open Go.Lib Go.RowKit Go.Proofs.YtpdhccdmbdbdpaaW.PrintWords Go.Proofs.YtpdhccdmbdbdpaaW.PrintLast Go.Proofs.YtpdhccdmbdbdpaaW.PrintMore
theorem infoClone : (Try.prog.info? 3).map (fun i => (i.zero, i.size, i.bytes)) = some (some (.int .i64 0), 1, 8) := by kernel_rfl
def slices_Clone_int.f (l0 : List Int) : Option (List Int) := if l0.length < 17592186044416 then some l0 else none
set_option maxHeartbeats 8000000 in
set_option maxRecDepth 100000 in
theorem slices_Clone_int.calls (A0 : Option Addr) (c0 : Nat) (l0 : List Int) (r : List Int) (w : World) (hr0 : Kd.C (Kd.int .i64) w A0 l0.length l0) (hc0 : l0.length ≤ c0) (h : slices_Clone_int.f l0 = some r) :
    Calls Try.prog 111 #[.slice A0 l0.length c0] w fun e w' => ∃ v0_ : Value, e = .returned (v0_) ∧ Kd.R (Kd.int .i64) 3 w' w.heap.size (fun _ => True) v0_ r ∧ Below w.heap.size w w' := by
  have HB := Aside0.mk (Below.refl w.heap.size w)
  have h0 : l0.length < 17592186044416 ∧ l0 = r := by
    unfold slices_Clone_int.f at h
    by_cases p : l0.length < 17592186044416
    · rw [if_pos p] at h; exact ⟨p, Option.some.inj h⟩
    · rw [if_neg p] at h; cases h
  obtain ⟨hl, rfl⟩ := h0
  clear h
  cases A0 with
  | none =>
    have hn : l0 = [] := by
      obtain ⟨_, _, h3⟩ := hr0
      cases l0 with
      | nil => rfl
      | cons x xs => obtain ⟨_, e, _⟩ := h3 (by simp); cases e
    subst hn
    clear hr0
    have hq : ∀ w, (binOp .eql 37 (.slice none 0 c0) (.slice none 0 0)).run Try.prog w = .ok (.bool true) w := fun w => run_eql_slice_nil_nil w 0 c0 Try.underlying37
    go_enter Try.func111, Try.ntmps111
    go_wp2
    go_ret
    exact ⟨_, rfl, Kd.R_nil _ _ _ _ _, HB.out⟩
  | some ad =>
    have HR := Aside0.mk hr0
    clear hr0
    have hq : ∀ w, (binOp .eql 37 (.slice (some ad) l0.length c0) (.slice none 0 0)).run Try.prog w = .ok (.bool false) w := fun w => run_eql_slice_some_nil w ad l0.length c0 Try.underlying37
    go_enter Try.func111, Try.ntmps111
    go_wp2_with (first
      | ((with_reducible refine gate_dst (N := 5) rfl ?_); refine Kd.R_lit (Kd.int .i64) _ 3 ?hg (N := 5) ?hd (xs := ([] : List Int)) (inner := []) (ok := fun _ => True) (okp := fun _ => True) ?hr ?hp (fun _ hk => hk) trivial (Below.refl _ _) (Nat.le_refl _) (by simp) ?_; (case hd => rfl); (case hg => rfl); (case hr => first | (go_simp; done) | (go_simp; rfl)); (case hp => exact (Reps.none _ _)); intro v2 w2 ho hb hg_ hnew_; clear hg_ hnew_; have HO := Aside0.mk ho; have HB2 := Aside0.mk hb; clear ho hb)
      | ((with_reducible refine gate_builtin (b := .append) (xs := #[.tmp 5, .tmp 6]) rfl ?_); at_builtin; refine Kd.R_append_rows (Kd.int .i64) (w0 := w) w.heap.size rfl (.tmp 5) (.tmp 6) 37 3 (.int .i64 0) 8 rfl Try.underlying37 infoClone rfl (by decide) (by omega) v2 [] l0 _ _ _ (fun _ => True) (fun _ => False) rfl rfl ?aO ?aR (fun _ _ h => h) (fun _ h => h.elim) ?aF ?aB ?aS ?aL ?_; (case aO => exact HO.out); (case aR => exact Kd.C_below HR.out HB2.out); (case aF => exact fun _ _ => trivial); (case aB => exact HB2.out); (case aS => exact below_size HB2.out); (case aL => simp; omega); intro v3 w3 ho3 hb3 hg3 hn3; clear hg3 hn3))
    go_ret
    exact ⟨_, rfl, ho3, hb3⟩
end Go.Proofs.Ytpdhccdmbdbdpaa.XA
end
namespace Go.Proofs.Ytpdhccdmbdbdpaa.XA
open Go.RowKit Go.Proofs.YtpdhccdmbdbdpaaW.PrintWords Go.Proofs.YtpdhccdmbdbdpaaW.PrintLast Go.Proofs.YtpdhccdmbdbdpaaW.PrintMore XW
attribute [local go_sem] max2_int min2_int max_two min_two max_three min_three max_four min_four   -- for this text's walks alone
set_option linter.unusedVariables false
set_option linter.unusedSimpArgs false
set_option maxHeartbeats 8000000
set_option maxRecDepth 100000
def impl_Node_copied.f (a0_0 : Int) (a0_1 : Int) (a0_2 : Int) (a0_3 : ByteArray) (l0_4 : List Int) : Option (Int × Int × Int × ByteArray × List Int) := (slices_Clone_int.f l0_4).bind fun t10 => (some (a0_0, a0_1, a0_2, a0_3, t10))
theorem impl_Node_copied.calls (a0_0 : Int) (a0_1 : Int) (a0_2 : Int) (a0_3 : ByteArray) (A0_4 : Option Addr) (c0_4 : Nat) (l0_4 : List Int) (r1 : Int) (r2 : Int) (r3 : Int) (r4 : ByteArray) (r5 : List Int) (w : World) (hr0_4 : Kd.C (Kd.int .i64) w A0_4 l0_4.length l0_4) (hc0_4 : l0_4.length ≤ c0_4) (h : impl_Node_copied.f a0_0 a0_1 a0_2 a0_3 l0_4 = some (r1, r2, r3, r4, r5)) :
  Calls Try.prog 71 #[.agg #[.int .i64 a0_0, .int .i64 a0_1, .int .i64 a0_2, .string a0_3, .slice A0_4 l0_4.length c0_4]] w fun e w' => ∃ v4_ : Value, e = .returned (.agg #[.int .i64 r1, .int .i64 r2, .int .i64 r3, .string r4, v4_]) ∧ Kd.R (Kd.int .i64) 3 w' w.heap.size (fun _ => True) v4_ r5 ∧ Below w.heap.size w w' := by
 have hu43 := Try.underlying43
 have HR0_4 := Am hr0_4
 have HC0_4 := Am hc0_4
 clear hr0_4 hc0_4
 have HB := Am (Below.refl w.heap.size w)
 have H : ((slices_Clone_int.f l0_4).bind fun t12 => (some (a0_0, a0_1, a0_2, a0_3, t12))) = some (r1, r2, r3, r4, r5) := h
 clear h
 obtain ⟨t12, A2, H⟩ := Xbi H
 try dsimp only at H
 simp only [Option.some.injEq, Prod.mk.injEq] at H
 obtain ⟨rfl, rfl, rfl, rfl, rfl⟩ := H
 go_enter Try.func71, Try.ntmps71
 go_wp2_with (first | ((with_reducible refine gate_dst (N := 1) rfl ?_); refine Xbx 1 #[.int .i64 a0_0, .int .i64 a0_1, .int .i64 a0_2, .string a0_3, .slice A0_4 l0_4.length c0_4] 43 ?_; intro gb13 hg w3 B13 GE13 hb; replace HB := Xhb hb; clear hb hg) | ((with_reducible refine gate_dst (N := 2) rfl ?_); refine Xbx 2 #[.int .i64 0, .int .i64 0, .int .i64 0, .string (⟨#[]⟩ : ByteArray), .slice none 0 0] 43 ?_; intro gb14 hg w4 B14 GE14 hb; replace HB := Xhb hb; have NB13_14 := Xnb hg B13; have NB14_13 := Xns NB13_14; replace B13 := Xbb B13 hb; clear hb hg; have hnb5 := NB13_14.out; have hnc5 := NB14_13.out; obtain ⟨Z6_0, Z6_1, Z6_2, Z6_3, Z6_4⟩ := Xc5 B13; obtain ⟨F6_0, F6_1, F6_2, F6_3, F6_4⟩ := Xf5 B13) | ((with_reducible refine gate_callee (f := 111) rfl ?_); refine Xgo 5 Try.func111 #[.slice A0_4 l0_4.length c0_4] ?_; (with_reducible refine (slices_Clone_int.calls _ _ l0_4 t12 _ ?s1 ?s2 A2.out).mono ?_); (case s1 => exact Xc HR0_4); (case s2 => exact HC0_4.out); rintro e w7 ⟨v375, rfl, ho0, hb⟩; refine ⟨_, rfl, ?_⟩; have HO15 := Am (Kd.R_lower ho0 (below_size Xi)); replace B13 := Xbb B13 hb; replace B14 := Xbb B14 hb; replace HB := Xhb hb; clear hb; (try clear ho0); obtain ⟨Ao8, co8, eo8⟩ := Kd.R_slice HO15.out; subst eo8; obtain ⟨Z9_0, Z9_1, Z9_2, Z9_3, Z9_4⟩ := Xc5 B13; obtain ⟨F9_0, F9_1, F9_2, F9_3, F9_4⟩ := Xf5 B13; obtain ⟨Z10_0, Z10_1, Z10_2, Z10_3, Z10_4⟩ := Xc5 B14; obtain ⟨F10_0, F10_1, F10_2, F10_3, F10_4⟩ := Xf5 B14) | ((with_reducible refine gate_store (t := 43) (p := 2) rfl ?_); refine store_event (t := 43) (p := 2) (v := ?vo_w11) (w1 := ((((((w7.setCell ⟨gb13, 4, none⟩ (.slice Ao8 t12.length co8)).setCell ⟨gb14, 0, none⟩ (.int .i64 a0_0)).setCell ⟨gb14, 1, none⟩ (.int .i64 a0_1)).setCell ⟨gb14, 2, none⟩ (.int .i64 a0_2)).setCell ⟨gb14, 3, none⟩ (.string a0_3)).setCell ⟨gb14, 4, none⟩ (.slice Ao8 t12.length co8))) ?hg ?ho ?hn ?hr ?_; (case ho => rfl); (case hg => rfl); (case hn => rfl); (case hr => first | (go_simp; done) | (go_simp; rfl)); intro w11 hw; have n0_ : Aside0 (Kd.R (Kd.int .i64) 3 w11 w.heap.size (fun _ => True) (.slice Ao8 t12.length co8) t12) := ⟨(by rw [hw]; exact (by (with_reducible repeat (first | apply Kd.R_alloc | apply Kd.R_drewN | apply Kd.R_drew)); exact Kd.R_mono (Kd.R_far (p := ⟨gb14, 4, none⟩) (Kd.R_far (p := ⟨gb14, 3, none⟩) (Kd.R_far (p := ⟨gb14, 2, none⟩) (Kd.R_far (p := ⟨gb14, 1, none⟩) (Kd.R_far (p := ⟨gb14, 0, none⟩) (Kd.R_far (p := ⟨gb13, 4, none⟩) (Kd.R_types (Kd.R_types HO15.out B13.out (by decide)) B14.out (by decide)) (fun _ hk => hk.1.2) (.slice Ao8 t12.length co8)) (fun _ hk => hk.2) (.int .i64 a0_0)) (fun _ hk => hk.2) (.int .i64 a0_1)) (fun _ hk => hk.2) (.int .i64 a0_2)) (fun _ hk => hk.2) (.string a0_3)) (fun _ hk => hk.2) (.slice Ao8 t12.length co8)) (fun _ hk => trivial)))⟩; have n1_ : Aside0 (w11.heap[gb13]? = some (.cells #[.int .i64 a0_0, .int .i64 a0_1, .int .i64 a0_2, .string a0_3, .slice Ao8 t12.length co8] 43 (0, 0))) := ⟨(by rw [hw]; exact (by refine Xu ?_; refine blk_far ?_ NB13_14.out _; refine Xu ?_; refine blk_far ?_ NB13_14.out _; refine Xu ?_; refine blk_far ?_ NB13_14.out _; refine Xu ?_; refine blk_far ?_ NB13_14.out _; refine Xu ?_; refine blk_far ?_ NB13_14.out _; refine Xu ?_; refine blk_put (cs := #[.int .i64 a0_0, .int .i64 a0_1, .int .i64 a0_2, .string a0_3, .slice A0_4 l0_4.length c0_4]) ?_ 4 _ rfl; refine Xu ?_; exact B13.out))⟩; have n2_ : Aside0 (w11.heap[gb14]? = some (.cells #[.int .i64 a0_0, .int .i64 a0_1, .int .i64 a0_2, .string a0_3, .slice Ao8 t12.length co8] 43 (0, 0))) := ⟨(by rw [hw]; exact (by refine Xu ?_; refine blk_put (cs := #[.int .i64 a0_0, .int .i64 a0_1, .int .i64 a0_2, .string a0_3, .slice none 0 0]) ?_ 4 _ rfl; refine Xu ?_; refine blk_put (cs := #[.int .i64 a0_0, .int .i64 a0_1, .int .i64 a0_2, .string (⟨#[]⟩ : ByteArray), .slice none 0 0]) ?_ 3 _ rfl; refine Xu ?_; refine blk_put (cs := #[.int .i64 a0_0, .int .i64 a0_1, .int .i64 0, .string (⟨#[]⟩ : ByteArray), .slice none 0 0]) ?_ 2 _ rfl; refine Xu ?_; refine blk_put (cs := #[.int .i64 a0_0, .int .i64 0, .int .i64 0, .string (⟨#[]⟩ : ByteArray), .slice none 0 0]) ?_ 1 _ rfl; refine Xu ?_; refine blk_put (cs := #[.int .i64 0, .int .i64 0, .int .i64 0, .string (⟨#[]⟩ : ByteArray), .slice none 0 0]) ?_ 0 _ rfl; refine Xu ?_; refine blk_far ?_ NB14_13.out _; refine Xu ?_; exact B14.out))⟩; have n3_ : Aside0 (Below w.heap.size w w11) := ⟨(by rw [hw]; exact Xi)⟩; clear hw; clear HO15; clear B13; clear B14; clear HB; have HO15 := n0_; have B13 := n1_; have B14 := n2_; have HB := n3_; clear n0_ n1_ n2_ n3_))
 refine bodyPost_ret (results_cell_row rfl _ _ gb14 43 #[.int .i64 a0_0, .int .i64 a0_1, .int .i64 a0_2, .string a0_3, .slice Ao8 t12.length co8] (0, 0) _ rfl B14.out Try.underlying43 rfl (by kernel_rfl)) rfl ?_
 exact ⟨_, Xe, Xq HO15, Xi⟩
def slices_Index_int_int.l0 : Nat → List Int → Int → Int → Int → Option (Int)
 | 0, _, _, _, _ => none
 | k + 1, x0, x1, x7, x8 => if x8 < x7 then (if 0 ≤ x8 then (if x8 < (x0.length : Int) then (if x1 = (rd x0 x8) then (some x8) else (slices_Index_int_int.l0 k x0 x1 x7 (wrap64 (x8 + 1)))) else (none)) else (none)) else (some (-1))
def slices_Index_int_int.f (k : Nat) (l0 : List Int) (a1 : Int) : Option (Int) := slices_Index_int_int.l0 k l0 a1 (l0.length : Int) 0
theorem slices_Index_int_int.calls (k : Nat) (A0 : Option Addr) (c0 : Nat) (l0 : List Int) (a1 : Int) (r : Int) (w : World) (hr0 : Kd.C (Kd.int .i64) w A0 l0.length l0) (hc0 : l0.length ≤ c0) (h : slices_Index_int_int.f k l0 a1 = some r) :
  Calls Try.prog 130 #[.slice A0 l0.length c0, .int .i64 a1] w fun e w' => e = .returned (.int .i64 r) ∧ Drawn0 w w' := by
 have HR0 := Am hr0
 have HC0 := Am hc0
 clear hr0 hc0
 have H : (slices_Index_int_int.l0 k l0 a1 (l0.length : Int) 0) = some r := h
 clear h
 have H' := Am H
 clear H
 go_enter Try.func130, Try.ntmps130
 go_wp2
 go_loopg [8] k (fun kq v8 w' => ∃ (x8_1 : Int), v8 = .int .i64 x8_1 ∧ Aside0 (slices_Index_int_int.l0 kq l0 a1 (l0.length : Int) x8_1 = some r) ∧ Aside0 (kq ≤ k) ∧ Drawn0 w w')
 case atStart => exact ⟨(0), Xr, H', Xkr, by repeat (first | exact Drawn0.refl _ | apply Drawn0.step)⟩
 clear H'
 obtain ⟨x8_1, rfl, HA, HK1, ⟨m1, rfl⟩⟩ := hrel
 cases gk with | zero => cases HA.out | succ k1 => ?_
 have H := HA.out
 clear HA
 simp only [slices_Index_int_int.l0] at H
 obtain ⟨c3b0, H⟩ | ⟨c3b0, H⟩ := Xit H
 ·obtain ⟨c4b0, H⟩ := Xid H
  obtain ⟨c5b0, H⟩ := Xid H
  obtain ⟨c6, H⟩ | ⟨c6, H⟩ := Xiu H
  ·have c6b0 : (a1 == (rd l0 x8_1)) = true := beq_iff_eq.mpr c6
   have c6b1 : (a1 != (rd l0 x8_1)) = false := bne_eq_false_iff_eq.mpr c6
   clear c6
   obtain rfl := Xsi H
   have p10 : 0 ≤ (x8_1 : Int) := Xo
   have q10 : x8_1 < (l0.length : Int) := Xo
   obtain ⟨ad10, e10, hx10_0⟩ := Kd.at_int HR0.out x8_1 p10 q10
   cases e10
   replace p10 := eq_true p10
   replace q10 := eq_true q10
   go_wp2
   go_ret
   exact ⟨Xr, Xdr⟩
  have c6b0 : (a1 == (rd l0 x8_1)) = false := beq_eq_false_iff_ne.mpr c6
  have c6b1 : (a1 != (rd l0 x8_1)) = true := bne_iff_ne.mpr c6
  have H' := Am H
  clear H
  have p10 : 0 ≤ (x8_1 : Int) := Xo
  have q10 : x8_1 < (l0.length : Int) := Xo
  obtain ⟨ad10, e10, hx10_0⟩ := Kd.at_int HR0.out x8_1 p10 q10
  cases e10
  replace p10 := eq_true p10
  replace q10 := eq_true q10
  go_wp2
  go_roundg k1
  case measure => have := HK1.out; omega
  case rel => exact ⟨(wrap64 (x8_1 + 1)), Xr, H', Xk1, by repeat (first | exact Drawn0.refl _ | apply Drawn0.step)⟩
 obtain rfl := Xsi H
 go_wp2
 go_ret
 exact ⟨Xr, Xdr⟩
def slices_Contains_int_int.f (k : Nat) (l0 : List Int) (a1 : Int) : Option (Bool) := (slices_Index_int_int.f k l0 a1).bind fun t10 => (some (decide (t10 ≥ 0)))
theorem slices_Contains_int_int.calls (k : Nat) (A0 : Option Addr) (c0 : Nat) (l0 : List Int) (a1 : Int) (r : Bool) (w : World) (hr0 : Kd.C (Kd.int .i64) w A0 l0.length l0) (hc0 : l0.length ≤ c0) (h : slices_Contains_int_int.f k l0 a1 = some r) :
  Calls Try.prog 103 #[.slice A0 l0.length c0, .int .i64 a1] w fun e w' => e = .returned (.bool r) ∧ Drawn0 w w' := by
 have HR0 := Am hr0
 have HC0 := Am hc0
 clear hr0 hc0
 have H : ((slices_Index_int_int.f k l0 a1).bind fun t10 => (some (decide (t10 ≥ 0)))) = some r := h
 clear h
 obtain ⟨t10, A3, H⟩ := Xbi H
 try dsimp only at H
 obtain rfl := Xsi H
 go_enter Try.func103, Try.ntmps103
 go_wp2_with (first | ((with_reducible refine gate_callee (f := 130) rfl ?_); refine Xgo 7 Try.func130 #[.slice A0 l0.length c0, .int .i64 a1] ?_; (with_reducible refine (slices_Index_int_int.calls k _ _ l0 a1 t10 _ ?s1 ?s2 A3.out).mono ?_); (case s1 => exact Xcd HR0.out); (case s2 => exact HC0.out); rintro e w' ⟨rfl, ⟨nd, rfl⟩⟩; refine ⟨_, rfl, ?_⟩))
 go_ret
 exact ⟨Xr, Xdr⟩
end Go.Proofs.Ytpdhccdmbdbdpaa.XA
