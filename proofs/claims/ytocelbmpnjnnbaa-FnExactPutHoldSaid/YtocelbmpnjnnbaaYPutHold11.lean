/- Contracts of the program's functions: each Go function that is named below comes to what its Lean function says. Written by xprint.py (a program of this session's, over the kit's print). Conditions: each contract's own premises. -/
import Derived.Test.YtocelbmpnjnnbaaYPutHold0
import Derived.Test.YtocelbmpnjnnbaaYPutHold10
import Derived.Test.YtocelbmpnjnnbaaMap
namespace Go.Proofs.Ytocelbmpnjnnbaa.XA
open Go.RowKit Go.Proofs.YtocelbmpnjnnbaaW.PrintWords Go.Proofs.YtocelbmpnjnnbaaW.PrintLast Go.Proofs.YtocelbmpnjnnbaaW.PrintMore XW
attribute [local go_sem] max2_int min2_int max_two min_two max_three min_three max_four min_four   -- for this text's walks alone
set_option linter.unusedVariables false
set_option linter.unusedSimpArgs false

/-! ### impl_DocOK: function 31 -/
mutual
def impl_DocOK.j0 : Nat → Bool → Int → Int → List (S64) → Option (Bool)
 | 0, _, _, _, _ => none
 | k + 1, x20, x294000, x294001, x294002 => if x20 = true then (some false) else (impl_DocOK.l0 k x294002 (x294002.length : Int) 0 x294000 x294001 x294002)
def impl_DocOK.l0 : Nat → List (S64) → Int → Int → Int → Int → List (S64) → Option (Bool)
 | 0, _, _, _, _, _, _ => none
 | k + 1, x22, x23, x24, x294000, x294001, x294002 => if x24 < x23 then (if 0 ≤ x24 then (if x24 < (x22.length : Int) then ((impl_within.f ((rd_T64 x22 x24).f0) 1 (wrap64 (x294001 - 1))).bind fun t298 => (if t298 = true then (if x24 > 0 then (if 0 ≤ (wrap64 (x24 - 1)) then (if (wrap64 (x24 - 1)) < (x294002.length : Int) then (if ((rd_T64 x294002 (wrap64 (x24 - 1))).f0) ≥ ((rd_T64 x22 x24).f0) then (impl_DocOK.j2 k x22 x23 x24 true x294000 x294001 x294002) else ((impl_within.f ((rd_T64 x22 x24).f1) 1 8).bind fun t300 => (if t300 = true then ((impl_within.f ((rd_T64 x22 x24).f2) 0 99).bind fun t301 => (if t301 = true then (if (((rd_T64 x22 x24).f3).size : Int) > 20 then (impl_DocOK.j2 k x22 x23 x24 true x294000 x294001 x294002) else (impl_DocOK.j2 k x22 x23 x24 (decide ((((rd_T64 x22 x24).f4).length : Int) > 12)) x294000 x294001 x294002)) else (impl_DocOK.j2 k x22 x23 x24 true x294000 x294001 x294002))) else (impl_DocOK.j2 k x22 x23 x24 true x294000 x294001 x294002)))) else (none)) else (none)) else ((impl_within.f ((rd_T64 x22 x24).f1) 1 8).bind fun t302 => (if t302 = true then ((impl_within.f ((rd_T64 x22 x24).f2) 0 99).bind fun t303 => (if t303 = true then (if (((rd_T64 x22 x24).f3).size : Int) > 20 then (impl_DocOK.j2 k x22 x23 x24 true x294000 x294001 x294002) else (impl_DocOK.j2 k x22 x23 x24 (decide ((((rd_T64 x22 x24).f4).length : Int) > 12)) x294000 x294001 x294002)) else (impl_DocOK.j2 k x22 x23 x24 true x294000 x294001 x294002))) else (impl_DocOK.j2 k x22 x23 x24 true x294000 x294001 x294002)))) else (impl_DocOK.j2 k x22 x23 x24 true x294000 x294001 x294002))) else (none)) else (none)) else (impl_DocOK.l1 k x294002 (x294002.length : Int) 0 x294000 x294001 x294002 ([] : List (Int × Bool)))
def impl_DocOK.j2 : Nat → List (S64) → Int → Int → Bool → Int → Int → List (S64) → Option (Bool)
 | 0, _, _, _, _, _, _, _ => none
 | k + 1, x22, x23, x24, x75, x294000, x294001, x294002 => if x75 = true then (some false) else (impl_DocOK.l0 k x22 x23 (wrap64 (x24 + 1)) x294000 x294001 x294002)
def impl_DocOK.l1 : Nat → List (S64) → Int → Int → Int → Int → List (S64) → List (Int × Bool) → Option (Bool)
 | 0, _, _, _, _, _, _, _ => none
 | k + 1, x79, x80, x81, x294000, x294001, x294002, x305000 => if x81 < x80 then (if 0 ≤ x81 then (if x81 < (x79.length : Int) then (impl_DocOK.l2 k x79 x80 x81 ((rd_T64 x79 x81).f4) (((rd_T64 x79 x81).f4).length : Int) 0 x294000 x294001 x294002 x305000) else (none)) else (none)) else ((impl_Doc_has.f k x294000 x294001 x294002 x294000).bind fun t309 => (if t309 = true then (if (x305000.length : Int) = (wrap64 ((x294002.length : Int) - 1)) then ((impl_Doc_isDeep.f k x294000 x294001 x294002).bind fun t310 => (impl_DocOK.j6 k t310 x294000 x294001 x294002)) else (impl_DocOK.j6 k true x294000 x294001 x294002)) else (impl_DocOK.j6 k true x294000 x294001 x294002)))
def impl_DocOK.l2 : Nat → List (S64) → Int → Int → List Int → Int → Int → Int → Int → List (S64) → List (Int × Bool) → Option (Bool)
 | 0, _, _, _, _, _, _, _, _, _, _ => none
 | k + 1, x79, x80, x81, x86, x87, x88, x294000, x294001, x294002, x305000 => if x88 < x87 then (if 0 ≤ x88 then (if x88 < (x86.length : Int) then (if XM.get false x305000 (rd x86 x88) = true then (impl_DocOK.j5 k (rd x86 x88) x79 x80 x81 x86 x87 x88 true x294000 x294001 x294002 x305000) else (if (rd x86 x88) = x294000 then (impl_DocOK.j5 k (rd x86 x88) x79 x80 x81 x86 x87 x88 true x294000 x294001 x294002 x305000) else ((impl_Doc_has.f k x294000 x294001 x294002 (rd x86 x88)).bind fun t308 => (impl_DocOK.j5 k (rd x86 x88) x79 x80 x81 x86 x87 x88 (!t308) x294000 x294001 x294002 x305000)))) else (none)) else (none)) else (impl_DocOK.l1 k x79 x80 (wrap64 (x81 + 1)) x294000 x294001 x294002 x305000)
def impl_DocOK.j5 : Nat → Int → List (S64) → Int → Int → List Int → Int → Int → Bool → Int → Int → List (S64) → List (Int × Bool) → Option (Bool)
 | 0, _, _, _, _, _, _, _, _, _, _, _, _ => none
 | k + 1, x9, x79, x80, x81, x86, x87, x88, x105, x294000, x294001, x294002, x305000 => if x105 = true then (some false) else (impl_DocOK.l2 k x79 x80 x81 x86 x87 (wrap64 (x88 + 1)) x294000 x294001 x294002 (XM.put x305000 x9 true))
def impl_DocOK.j6 : Nat → Bool → Int → Int → List (S64) → Option (Bool)
 | 0, _, _, _, _ => none
 | k + 1, x125, x294000, x294001, x294002 => if x125 = true then (some false) else ((impl_Doc_order.f k x294000 x294001 x294002 ([] : List Int) x294000).bind fun t311 => (some ((t311.length : Int) == (x294002.length : Int))))
end
def impl_DocOK.f (k : Nat) (a0_0 : Int) (a0_1 : Int) (l0_2 : List (S64)) : Option (Bool) := (impl_within.f (l0_2.length : Int) 1 40).bind fun t294 => (if t294 = true then ((impl_within.f a0_1 2 999999).bind fun t295 => (impl_DocOK.j0 k (!t295) a0_0 a0_1 l0_2)) else (impl_DocOK.j0 k true a0_0 a0_1 l0_2))
def impl_DocOK.T23 : Bool × List (List Nat × List Nat) := (true, [([], []), ([0], [0]), ([1], [1]), ([2], [2]), ([], []), ([4], [4]), ([5], [5]), ([3, 6], [3, 6]), ([7, 2, 0, 1, 2, 3, 4, 5, 6, 7], [7])])
def impl_DocOK.B23 : List Nat := [0, 1, 3, 7, 0, 16, 48, 127, 255]
theorem impl_DocOK.tab23 : rtab .any (opsOf Try.f31 23) = impl_DocOK.T23 := by kernel_rfl
theorem impl_DocOK.bits23 : waitsOk impl_DocOK.T23.2 impl_DocOK.B23 = true := by kernel_rfl
set_option maxHeartbeats 8000000 in
set_option maxRecDepth 100000 in
theorem impl_DocOK.calls (k : Nat) (a0_0 : Int) (a0_1 : Int) (A0_2 : Option Addr) (c0_2 : Nat) (l0_2 : List (S64)) (r : Bool) (w : World) (hr0_2 : Kd.C k64 w A0_2 l0_2.length l0_2) (hc0_2 : l0_2.length ≤ c0_2) (h : impl_DocOK.f k a0_0 a0_1 l0_2 = some r) :
  Calls Try.prog 31 #[.agg #[.int .i64 a0_0, .int .i64 a0_1, .slice A0_2 l0_2.length c0_2]] w fun e w' => e = .returned (.bool r) ∧ Below w.heap.size w w' := by
 have hu35 := Try.underlying35
 have hu64 := Try.underlying64
 have HR0_2 := Aside0.mk hr0_2
 have HC0_2 := Aside0.mk hc0_2
 clear hr0_2 hc0_2
 have HB := Aside0.mk (Below.refl w.heap.size w)
 have H : ((impl_within.f (l0_2.length : Int) 1 40).bind fun t294 => (if t294 = true then ((impl_within.f a0_1 2 999999).bind fun t295 => (impl_DocOK.j0 k (!t295) a0_0 a0_1 l0_2)) else (impl_DocOK.j0 k true a0_0 a0_1 l0_2))) = some r := h
 clear h
 have HC2 := Aside0.mk H
 clear H
 go_enter Try.func31, Try.ntmps31
 go_upto_region 1 with (first | ((with_reducible refine gate_dst (N := 1) rfl ?_); (try (refine gate_guard (by rfl) ?_; dsimp only)); refine Xbox 1 #[.int .i64 a0_0, .int .i64 a0_1, .slice A0_2 l0_2.length c0_2] 35 ?_; intro gb293 hg w3 hbox hb; have BK293 := Aside0.mk (hbox); have GE293 := Xge hg Xi; replace HB := Aside0.mk (below_step Xi hb); clear hb hbox hg))
 (try simp only [XW.q0, XW.q1, XW.q2])
 go_cut [20] (fun v20 wc => ∃ (kq : Nat) (x20_1 : Bool), v20 = .bool x20_1 ∧ Aside0 (impl_DocOK.j0 kq x20_1 a0_0 a0_1 l0_2 = some r) ∧ Aside0 (kq ≤ k) ∧ Aside0 (wc.heap[gb293]? = some (.cells #[.int .i64 a0_0, .int .i64 a0_1, (.slice A0_2 l0_2.length c0_2)] 35 (0, 0))) ∧ Aside0 (Below w.heap.size w wc))
 case first =>
  have H := HC2.out
  clear HC2
  obtain ⟨t294, A4, H⟩ := Xbi H
  (try dsimp only at H)
  by_cases c5 : t294 = true
  ·subst c5
   (first | rw [if_pos rfl] at H | skip)
   obtain ⟨t295, A6, H⟩ := Xbi H
   (try dsimp only at H)
   have H' := Aside0.mk H
   clear H
   obtain ⟨hcz7_0, hcz7_1, hcz7_2⟩ := Xc3 BK293
   obtain ⟨hfz7_0, hfz7_1, hfz7_2⟩ := Xf3 BK293
   go_wp2_with (first | ((with_reducible refine gate_callee (f := 69) rfl ?_); refine Xgo 13 Try.func69 #[.int .i64 (l0_2.length : Int), .int .i64 1, .int .i64 40] ?_; (with_reducible refine (impl_within.calls (l0_2.length : Int) 1 40 true _ A4.out).mono ?_); rintro e w' ⟨rfl, ⟨nd, rfl⟩⟩; refine ⟨_, rfl, ?_⟩) | (go_at_call 69; (with_reducible refine (impl_within.calls a0_1 2 999999 t295 _ A6.out).mono ?_); rintro e w' ⟨rfl, ⟨nd, rfl⟩⟩; (try exact Xdd)))
   go_meet
   case rel => exact ⟨_, (!t295), Xr, H', Xko, BK293, ⟨Xi⟩⟩
  ·replace c5 := Bool.eq_false_iff.mpr c5
   subst c5
   (first | rw [if_neg (show ¬ (false = true) by decide)] at H | skip)
   have H' := Aside0.mk H
   clear H
   obtain ⟨hcz8_0, hcz8_1, hcz8_2⟩ := Xc3 BK293
   obtain ⟨hfz8_0, hfz8_1, hfz8_2⟩ := Xf3 BK293
   go_wp2_with (first | ((with_reducible refine gate_callee (f := 69) rfl ?_); refine Xgo 13 Try.func69 #[.int .i64 (l0_2.length : Int), .int .i64 1, .int .i64 40] ?_; (with_reducible refine (impl_within.calls (l0_2.length : Int) 1 40 false _ A4.out).mono ?_); rintro e w' ⟨rfl, ⟨nd, rfl⟩⟩; refine ⟨_, rfl, ?_⟩))
   go_meet
   case rel => exact ⟨_, (true), Xr, H', Xko, BK293, ⟨Xi⟩⟩
 case rest =>
  clear HC2
  obtain ⟨kq, x20_1, rfl, HA, HJ1, BK293, HB⟩ := hcut
  cases kq with
  | zero => cases HA.out
  | succ kj1 =>
   have H := HA.out
   clear HA
   simp only [impl_DocOK.j0] at H
   by_cases c9 : x20_1 = true
   ·subst c9
    (first | rw [if_pos rfl] at H | skip)
    obtain rfl := Option.some.inj H
    go_wp2
    go_ret
    exact ⟨Xe, Xi⟩
   ·replace c9 := Bool.eq_false_iff.mpr c9
    subst c9
    (first | rw [if_neg (show ¬ (false = true) by decide)] at H | skip)
    have H' := Aside0.mk H
    clear H
    obtain ⟨hcz10_0, hcz10_1, hcz10_2⟩ := Xc3 BK293
    obtain ⟨hfz10_0, hfz10_1, hfz10_2⟩ := Xf3 BK293
    go_wp2
    go_loopg [24] kj1 (fun kq v24 w' => ∃ (x24_2 : Int), v24 = .int .i64 x24_2 ∧ Aside0 (impl_DocOK.l0 kq l0_2 (l0_2.length : Int) x24_2 a0_0 a0_1 l0_2 = some r) ∧ Aside0 (kq ≤ kj1) ∧ Aside0 (w'.heap[gb293]? = some (.cells #[.int .i64 a0_0, .int .i64 a0_1, (.slice A0_2 l0_2.length c0_2)] 35 (0, 0))) ∧ Aside0 (Below w.heap.size w w'))
    case atStart => exact ⟨(0), Xr, H', Xkr, BK293, ⟨Xi⟩⟩
    case round =>
     clear H'
     (try clear c9); (try clear hcz10_0); (try clear hcz10_1); (try clear hcz10_2); (try clear hfz10_0); (try clear hfz10_1); (try clear hfz10_2)
     obtain ⟨x24_2, rfl, HA, HK2, BK293, HB⟩ := hrel
     cases gk with
     | zero => cases HA.out
     | succ k2 =>
      have H := HA.out
      clear HA
      simp only [impl_DocOK.l0] at H
      obtain ⟨c11b0, H⟩ | ⟨c11b0, H⟩ := Xit H
      ·obtain ⟨c12b0, H⟩ := Xid H
       obtain ⟨c13b0, H⟩ := Xid H
       have HC14 := Aside0.mk H
       clear H
       obtain ⟨ad296, A296_4, c296_4, e296, p296, q296, hx296_0, hx296_1, hx296_2, hx296_3, hx296_4, HC296_4, HR296_4⟩ := at_B64 HR0_2 x24_2 Xa Xa HB
       cases e296
       go_upto_region 6 with (first | ((with_reducible refine gate_dst (N := 4) rfl ?_); (try (refine gate_guard (by rfl) ?_; dsimp only)); refine Xbox 4 #[.int .i64 0, .int .i64 0, .int .i64 0, .string (⟨#[]⟩ : ByteArray), .slice none 0 0] 64 ?_; intro gb297 hg w15 hbox hb; have BK297 := Aside0.mk (hbox); have GE297 := Xge hg Xi; replace HB := Aside0.mk (below_step Xi hb); have NB293_297 := Xnb hg BK293; have NB297_293 := Xns NB293_297; replace BK293 := Xbb BK293 hb; clear hb hbox hg; have hnb16 := NB297_293.out; have hnc16 := NB293_297.out; obtain ⟨hcz17_0, hcz17_1, hcz17_2, hcz17_3, hcz17_4⟩ := Xc5 BK297; obtain ⟨hfz17_0, hfz17_1, hfz17_2, hfz17_3, hfz17_4⟩ := Xf5 BK297) | ((with_reducible refine gate_store (t := 64) (p := 4) rfl ?_); refine store_event (t := 64) (p := 4) (v := ?vo_w18) (w1 := (((((w15.setCell ⟨gb297, 0, none⟩ (.int .i64 ((rd_T64 l0_2 x24_2).f0))).setCell ⟨gb297, 1, none⟩ (.int .i64 ((rd_T64 l0_2 x24_2).f1))).setCell ⟨gb297, 2, none⟩ (.int .i64 ((rd_T64 l0_2 x24_2).f2))).setCell ⟨gb297, 3, none⟩ (.string ((rd_T64 l0_2 x24_2).f3))).setCell ⟨gb297, 4, none⟩ (.slice A296_4 ((rd_T64 l0_2 x24_2).f4).length c296_4))) ?hg ?ho ?hn ?hr ?_; (case ho => rfl); (case hg => rfl); (case hn => rfl); (case hr => first | (go_simp; done) | (go_simp; rfl)); intro w18 hw; have n0_ : Aside0 (w18.heap[gb293]? = some (.cells #[.int .i64 a0_0, .int .i64 a0_1, .slice (some ad296) l0_2.length c0_2] 35 (0, 0))) := ⟨(by rw [hw]; exact (by (with_reducible repeat (first | refine blk_drewN ?_ _ | refine blk_drew ?_ | refine blk_alloc ?_ _)); refine blk_far ?_ NB293_297.out _; (with_reducible repeat (first | refine blk_drewN ?_ _ | refine blk_drew ?_ | refine blk_alloc ?_ _)); refine blk_far ?_ NB293_297.out _; (with_reducible repeat (first | refine blk_drewN ?_ _ | refine blk_drew ?_ | refine blk_alloc ?_ _)); refine blk_far ?_ NB293_297.out _; (with_reducible repeat (first | refine blk_drewN ?_ _ | refine blk_drew ?_ | refine blk_alloc ?_ _)); refine blk_far ?_ NB293_297.out _; (with_reducible repeat (first | refine blk_drewN ?_ _ | refine blk_drew ?_ | refine blk_alloc ?_ _)); refine blk_far ?_ NB293_297.out _; (with_reducible repeat (first | refine blk_drewN ?_ _ | refine blk_drew ?_ | refine blk_alloc ?_ _)); exact BK293.out))⟩; have n1_ : Aside0 (w18.heap[gb297]? = some (.cells #[.int .i64 ((rd_T64 l0_2 x24_2).f0), .int .i64 ((rd_T64 l0_2 x24_2).f1), .int .i64 ((rd_T64 l0_2 x24_2).f2), .string ((rd_T64 l0_2 x24_2).f3), .slice A296_4 ((rd_T64 l0_2 x24_2).f4).length c296_4] 64 (0, 0))) := ⟨(by rw [hw]; exact (by (with_reducible repeat (first | refine blk_drewN ?_ _ | refine blk_drew ?_ | refine blk_alloc ?_ _)); refine blk_put (cs := #[.int .i64 ((rd_T64 l0_2 x24_2).f0), .int .i64 ((rd_T64 l0_2 x24_2).f1), .int .i64 ((rd_T64 l0_2 x24_2).f2), .string ((rd_T64 l0_2 x24_2).f3), .slice none 0 0]) ?_ 4 _ rfl; (with_reducible repeat (first | refine blk_drewN ?_ _ | refine blk_drew ?_ | refine blk_alloc ?_ _)); refine blk_put (cs := #[.int .i64 ((rd_T64 l0_2 x24_2).f0), .int .i64 ((rd_T64 l0_2 x24_2).f1), .int .i64 ((rd_T64 l0_2 x24_2).f2), .string (⟨#[]⟩ : ByteArray), .slice none 0 0]) ?_ 3 _ rfl; (with_reducible repeat (first | refine blk_drewN ?_ _ | refine blk_drew ?_ | refine blk_alloc ?_ _)); refine blk_put (cs := #[.int .i64 ((rd_T64 l0_2 x24_2).f0), .int .i64 ((rd_T64 l0_2 x24_2).f1), .int .i64 0, .string (⟨#[]⟩ : ByteArray), .slice none 0 0]) ?_ 2 _ rfl; (with_reducible repeat (first | refine blk_drewN ?_ _ | refine blk_drew ?_ | refine blk_alloc ?_ _)); refine blk_put (cs := #[.int .i64 ((rd_T64 l0_2 x24_2).f0), .int .i64 0, .int .i64 0, .string (⟨#[]⟩ : ByteArray), .slice none 0 0]) ?_ 1 _ rfl; (with_reducible repeat (first | refine blk_drewN ?_ _ | refine blk_drew ?_ | refine blk_alloc ?_ _)); refine blk_put (cs := #[.int .i64 0, .int .i64 0, .int .i64 0, .string (⟨#[]⟩ : ByteArray), .slice none 0 0]) ?_ 0 _ rfl; (with_reducible repeat (first | refine blk_drewN ?_ _ | refine blk_drew ?_ | refine blk_alloc ?_ _)); exact BK297.out))⟩; have n2_ : Aside0 (Below w.heap.size w w18) := ⟨(by rw [hw]; exact Xi)⟩; clear hw; clear BK293; clear BK297; clear HB; have BK293 := n0_; have BK297 := n1_; have HB := n2_; clear n0_ n1_ n2_))
       (try simp only [XW.q0, XW.q1, XW.q2])
       go_cut [75] (fun v75 wc => ∃ (kq : Nat) (x75_13 : Bool), v75 = .bool x75_13 ∧ Aside0 (impl_DocOK.j2 kq l0_2 (l0_2.length : Int) x24_2 x75_13 a0_0 a0_1 l0_2 = some r) ∧ Aside0 (kq ≤ k2) ∧ Aside0 (wc.heap[gb293]? = some (.cells #[.int .i64 a0_0, .int .i64 a0_1, (.slice (some ad296) l0_2.length c0_2)] 35 (0, 0))) ∧ Aside0 (wc.heap[gb297]? = some (.cells #[.int .i64 ((rd_T64 l0_2 x24_2).f0), .int .i64 ((rd_T64 l0_2 x24_2).f1), .int .i64 ((rd_T64 l0_2 x24_2).f2), .string ((rd_T64 l0_2 x24_2).f3), (.slice A296_4 ((rd_T64 l0_2 x24_2).f4).length c296_4)] 64 (0, 0))) ∧ Aside0 (Below w.heap.size w wc))
       case first =>
        have H := HC14.out
        clear HC14
        obtain ⟨t298, A19, H⟩ := Xbi H
        (try dsimp only at H)
        by_cases c20 : t298 = true
        ·subst c20
         (first | rw [if_pos rfl] at H | skip)
         obtain ⟨c21, H⟩ | ⟨c21, H⟩ := Xiu H
         ·have c21b0 : decide (0 < x24_2) = true := decide_eq_true c21
          clear c21
          (first | rw [c21b0] | (simp only [i64_w, i32_w]; rw [c21b0]) | skip)
          obtain ⟨ji22, hji22⟩ : ∃ j_ : Int, (wrap64 (x24_2 - 1)) = j_ := ⟨_, rfl⟩
          replace H : (if 0 ≤ (ji22) then (if (ji22) < (l0_2.length : Int) then (if ((rd_T64 l0_2 (ji22)).f0) ≥ ((rd_T64 l0_2 x24_2).f0) then (impl_DocOK.j2 k2 l0_2 (l0_2.length : Int) x24_2 true a0_0 a0_1 l0_2) else ((impl_within.f ((rd_T64 l0_2 x24_2).f1) 1 8).bind fun t300 => (if t300 = true then ((impl_within.f ((rd_T64 l0_2 x24_2).f2) 0 99).bind fun t301 => (if t301 = true then (if (((rd_T64 l0_2 x24_2).f3).size : Int) > 20 then (impl_DocOK.j2 k2 l0_2 (l0_2.length : Int) x24_2 true a0_0 a0_1 l0_2) else (impl_DocOK.j2 k2 l0_2 (l0_2.length : Int) x24_2 (decide ((((rd_T64 l0_2 x24_2).f4).length : Int) > 12)) a0_0 a0_1 l0_2)) else (impl_DocOK.j2 k2 l0_2 (l0_2.length : Int) x24_2 true a0_0 a0_1 l0_2))) else (impl_DocOK.j2 k2 l0_2 (l0_2.length : Int) x24_2 true a0_0 a0_1 l0_2)))) else (none)) else (none)) = some r := by first | (rw [hji22] at H; exact H) | (simp only [hji22] at H ⊢; exact H)
          (try rw [hji22] at A19)
          have hji22w : (IntKind.i64.wrap (x24_2 - 1)) = ji22 := (i64_w _).trans hji22
          obtain ⟨c23b0, H⟩ := Xid H
          obtain ⟨c24b0, H⟩ := Xid H
          obtain ⟨c25, H⟩ | ⟨c25, H⟩ := Xiu H
          ·have c25b0 : decide (((rd_T64 l0_2 x24_2).f0) ≤ ((rd_T64 l0_2 (ji22)).f0)) = true := decide_eq_true c25
           clear c25
           have H' := Aside0.mk H
           clear H
           have hnb26 := NB297_293.out
           have hnc26 := NB293_297.out
           obtain ⟨hcz27_0, hcz27_1, hcz27_2, hcz27_3, hcz27_4⟩ := Xc5 BK297
           obtain ⟨hfz27_0, hfz27_1, hfz27_2, hfz27_3, hfz27_4⟩ := Xf5 BK297
           obtain ⟨hcz28_0, hcz28_1, hcz28_2⟩ := Xc3 BK293
           obtain ⟨hfz28_0, hfz28_1, hfz28_2⟩ := Xf3 BK293
           obtain ⟨ad299, A299_4, c299_4, e299, p299, q299, hx299_0, hx299_1, hx299_2, hx299_3, hx299_4, HC299_4, HR299_4⟩ := at_B64 HR0_2 (ji22) Xa Xa HB
           obtain rfl : ad296 = ad299 := (by injection e299)
           (try go_wp2)
           repeat (go_quiet (first | (go_at_call 69; (with_reducible refine (impl_within.calls ((rd_T64 l0_2 x24_2).f0) 1 (wrap64 (a0_1 - 1)) true _ A19.out).mono ?_); rintro e w' ⟨rfl, ⟨nd, rfl⟩⟩; (try exact Xdd))); try go_wp2)
           go_meet
           case rel => exact ⟨_, (true), Xr, H', ⟨by have := HJ1.out; have := HK2.out; first | omega | exact Nat.le_refl _⟩, BK293, BK297, ⟨Xi⟩⟩
          ·have c25b0 : decide (((rd_T64 l0_2 x24_2).f0) ≤ ((rd_T64 l0_2 (ji22)).f0)) = false := decide_eq_false c25
           clear c25
           obtain ⟨t300, A29, H⟩ := Xbi H
           (try dsimp only at H)
           by_cases c30 : t300 = true
           ·subst c30
            (first | rw [if_pos rfl] at H | skip)
            obtain ⟨t301, A31, H⟩ := Xbi H
            (try dsimp only at H)
            by_cases c32 : t301 = true
            ·subst c32
             (first | rw [if_pos rfl] at H | skip)
             obtain ⟨c33, H⟩ | ⟨c33, H⟩ := Xiu H
             ·have c33b0 : decide (20 < (((rd_T64 l0_2 x24_2).f3).size : Int)) = true := decide_eq_true c33
              have c33b1 : decide (20 < ((rd_T64 l0_2 x24_2).f3).size) = true := decide_eq_true (by omega)
              clear c33
              have H' := Aside0.mk H
              clear H
              have hnb34 := NB297_293.out
              have hnc34 := NB293_297.out
              obtain ⟨hcz35_0, hcz35_1, hcz35_2, hcz35_3, hcz35_4⟩ := Xc5 BK297
              obtain ⟨hfz35_0, hfz35_1, hfz35_2, hfz35_3, hfz35_4⟩ := Xf5 BK297
              obtain ⟨hcz36_0, hcz36_1, hcz36_2⟩ := Xc3 BK293
              obtain ⟨hfz36_0, hfz36_1, hfz36_2⟩ := Xf3 BK293
              obtain ⟨ad299, A299_4, c299_4, e299, p299, q299, hx299_0, hx299_1, hx299_2, hx299_3, hx299_4, HC299_4, HR299_4⟩ := at_B64 HR0_2 (ji22) Xa Xa HB
              obtain rfl : ad296 = ad299 := (by injection e299)
              (try go_wp2)
              repeat (go_quiet (first | (go_at_call 69; (with_reducible refine (impl_within.calls ((rd_T64 l0_2 x24_2).f0) 1 (wrap64 (a0_1 - 1)) true _ A19.out).mono ?_); rintro e w' ⟨rfl, ⟨nd, rfl⟩⟩; (try exact Xdd)) | (go_at_call 69; (with_reducible refine (impl_within.calls ((rd_T64 l0_2 x24_2).f1) 1 8 true _ A29.out).mono ?_); rintro e w' ⟨rfl, ⟨nd, rfl⟩⟩; (try exact Xdd)) | (go_at_call 69; (with_reducible refine (impl_within.calls ((rd_T64 l0_2 x24_2).f2) 0 99 true _ A31.out).mono ?_); rintro e w' ⟨rfl, ⟨nd, rfl⟩⟩; (try exact Xdd))); try go_wp2)
              go_meet
              case rel => exact ⟨_, (true), Xr, H', ⟨by have := HJ1.out; have := HK2.out; first | omega | exact Nat.le_refl _⟩, BK293, BK297, ⟨Xi⟩⟩
             ·have c33b0 : decide (20 < (((rd_T64 l0_2 x24_2).f3).size : Int)) = false := decide_eq_false c33
              have c33b1 : decide (20 < ((rd_T64 l0_2 x24_2).f3).size) = false := decide_eq_false (by omega)
              clear c33
              have H' := Aside0.mk H
              clear H
              have hnb37 := NB297_293.out
              have hnc37 := NB293_297.out
              obtain ⟨hcz38_0, hcz38_1, hcz38_2, hcz38_3, hcz38_4⟩ := Xc5 BK297
              obtain ⟨hfz38_0, hfz38_1, hfz38_2, hfz38_3, hfz38_4⟩ := Xf5 BK297
              obtain ⟨hcz39_0, hcz39_1, hcz39_2⟩ := Xc3 BK293
              obtain ⟨hfz39_0, hfz39_1, hfz39_2⟩ := Xf3 BK293
              obtain ⟨ad299, A299_4, c299_4, e299, p299, q299, hx299_0, hx299_1, hx299_2, hx299_3, hx299_4, HC299_4, HR299_4⟩ := at_B64 HR0_2 (ji22) Xa Xa HB
              obtain rfl : ad296 = ad299 := (by injection e299)
              (try go_wp2)
              repeat (go_quiet (first | (go_at_call 69; (with_reducible refine (impl_within.calls ((rd_T64 l0_2 x24_2).f0) 1 (wrap64 (a0_1 - 1)) true _ A19.out).mono ?_); rintro e w' ⟨rfl, ⟨nd, rfl⟩⟩; (try exact Xdd)) | (go_at_call 69; (with_reducible refine (impl_within.calls ((rd_T64 l0_2 x24_2).f1) 1 8 true _ A29.out).mono ?_); rintro e w' ⟨rfl, ⟨nd, rfl⟩⟩; (try exact Xdd)) | (go_at_call 69; (with_reducible refine (impl_within.calls ((rd_T64 l0_2 x24_2).f2) 0 99 true _ A31.out).mono ?_); rintro e w' ⟨rfl, ⟨nd, rfl⟩⟩; (try exact Xdd))); try go_wp2)
              go_meet
              case rel => exact ⟨_, (decide ((((rd_T64 l0_2 x24_2).f4).length : Int) > 12)), Xr, H', ⟨by have := HJ1.out; have := HK2.out; first | omega | exact Nat.le_refl _⟩, BK293, BK297, ⟨Xi⟩⟩
            ·replace c32 := Bool.eq_false_iff.mpr c32
             subst c32
             (first | rw [if_neg (show ¬ (false = true) by decide)] at H | skip)
             have H' := Aside0.mk H
             clear H
             have hnb40 := NB297_293.out
             have hnc40 := NB293_297.out
             obtain ⟨hcz41_0, hcz41_1, hcz41_2, hcz41_3, hcz41_4⟩ := Xc5 BK297
             obtain ⟨hfz41_0, hfz41_1, hfz41_2, hfz41_3, hfz41_4⟩ := Xf5 BK297
             obtain ⟨hcz42_0, hcz42_1, hcz42_2⟩ := Xc3 BK293
             obtain ⟨hfz42_0, hfz42_1, hfz42_2⟩ := Xf3 BK293
             obtain ⟨ad299, A299_4, c299_4, e299, p299, q299, hx299_0, hx299_1, hx299_2, hx299_3, hx299_4, HC299_4, HR299_4⟩ := at_B64 HR0_2 (ji22) Xa Xa HB
             obtain rfl : ad296 = ad299 := (by injection e299)
             (try go_wp2)
             repeat (go_quiet (first | (go_at_call 69; (with_reducible refine (impl_within.calls ((rd_T64 l0_2 x24_2).f0) 1 (wrap64 (a0_1 - 1)) true _ A19.out).mono ?_); rintro e w' ⟨rfl, ⟨nd, rfl⟩⟩; (try exact Xdd)) | (go_at_call 69; (with_reducible refine (impl_within.calls ((rd_T64 l0_2 x24_2).f1) 1 8 true _ A29.out).mono ?_); rintro e w' ⟨rfl, ⟨nd, rfl⟩⟩; (try exact Xdd)) | (go_at_call 69; (with_reducible refine (impl_within.calls ((rd_T64 l0_2 x24_2).f2) 0 99 false _ A31.out).mono ?_); rintro e w' ⟨rfl, ⟨nd, rfl⟩⟩; (try exact Xdd))); try go_wp2)
             go_meet
             case rel => exact ⟨_, (true), Xr, H', ⟨by have := HJ1.out; have := HK2.out; first | omega | exact Nat.le_refl _⟩, BK293, BK297, ⟨Xi⟩⟩
           ·replace c30 := Bool.eq_false_iff.mpr c30
            subst c30
            (first | rw [if_neg (show ¬ (false = true) by decide)] at H | skip)
            have H' := Aside0.mk H
            clear H
            have hnb43 := NB297_293.out
            have hnc43 := NB293_297.out
            obtain ⟨hcz44_0, hcz44_1, hcz44_2, hcz44_3, hcz44_4⟩ := Xc5 BK297
            obtain ⟨hfz44_0, hfz44_1, hfz44_2, hfz44_3, hfz44_4⟩ := Xf5 BK297
            obtain ⟨hcz45_0, hcz45_1, hcz45_2⟩ := Xc3 BK293
            obtain ⟨hfz45_0, hfz45_1, hfz45_2⟩ := Xf3 BK293
            obtain ⟨ad299, A299_4, c299_4, e299, p299, q299, hx299_0, hx299_1, hx299_2, hx299_3, hx299_4, HC299_4, HR299_4⟩ := at_B64 HR0_2 (ji22) Xa Xa HB
            obtain rfl : ad296 = ad299 := (by injection e299)
            (try go_wp2)
            repeat (go_quiet (first | (go_at_call 69; (with_reducible refine (impl_within.calls ((rd_T64 l0_2 x24_2).f0) 1 (wrap64 (a0_1 - 1)) true _ A19.out).mono ?_); rintro e w' ⟨rfl, ⟨nd, rfl⟩⟩; (try exact Xdd)) | (go_at_call 69; (with_reducible refine (impl_within.calls ((rd_T64 l0_2 x24_2).f1) 1 8 false _ A29.out).mono ?_); rintro e w' ⟨rfl, ⟨nd, rfl⟩⟩; (try exact Xdd))); try go_wp2)
            go_meet
            case rel => exact ⟨_, (true), Xr, H', ⟨by have := HJ1.out; have := HK2.out; first | omega | exact Nat.le_refl _⟩, BK293, BK297, ⟨Xi⟩⟩
         ·have c21b0 : decide (0 < x24_2) = false := decide_eq_false c21
          clear c21
          (first | rw [c21b0] | (simp only [i64_w, i32_w]; rw [c21b0]) | skip)
          obtain ⟨t302, A46, H⟩ := Xbi H
          (try dsimp only at H)
          by_cases c47 : t302 = true
          ·subst c47
           (first | rw [if_pos rfl] at H | skip)
           obtain ⟨t303, A48, H⟩ := Xbi H
           (try dsimp only at H)
           by_cases c49 : t303 = true
           ·subst c49
            (first | rw [if_pos rfl] at H | skip)
            obtain ⟨c50, H⟩ | ⟨c50, H⟩ := Xiu H
            ·have c50b0 : decide (20 < (((rd_T64 l0_2 x24_2).f3).size : Int)) = true := decide_eq_true c50
             have c50b1 : decide (20 < ((rd_T64 l0_2 x24_2).f3).size) = true := decide_eq_true (by omega)
             clear c50
             have H' := Aside0.mk H
             clear H
             have hnb51 := NB297_293.out
             have hnc51 := NB293_297.out
             obtain ⟨hcz52_0, hcz52_1, hcz52_2, hcz52_3, hcz52_4⟩ := Xc5 BK297
             obtain ⟨hfz52_0, hfz52_1, hfz52_2, hfz52_3, hfz52_4⟩ := Xf5 BK297
             obtain ⟨hcz53_0, hcz53_1, hcz53_2⟩ := Xc3 BK293
             obtain ⟨hfz53_0, hfz53_1, hfz53_2⟩ := Xf3 BK293
             (try go_wp2)
             repeat (go_quiet (first | (go_at_call 69; (with_reducible refine (impl_within.calls ((rd_T64 l0_2 x24_2).f0) 1 (wrap64 (a0_1 - 1)) true _ A19.out).mono ?_); rintro e w' ⟨rfl, ⟨nd, rfl⟩⟩; (try exact Xdd)) | (go_at_call 69; (with_reducible refine (impl_within.calls ((rd_T64 l0_2 x24_2).f1) 1 8 true _ A46.out).mono ?_); rintro e w' ⟨rfl, ⟨nd, rfl⟩⟩; (try exact Xdd)) | (go_at_call 69; (with_reducible refine (impl_within.calls ((rd_T64 l0_2 x24_2).f2) 0 99 true _ A48.out).mono ?_); rintro e w' ⟨rfl, ⟨nd, rfl⟩⟩; (try exact Xdd))); try go_wp2)
             go_meet
             case rel => exact ⟨_, (true), Xr, H', ⟨by have := HJ1.out; have := HK2.out; first | omega | exact Nat.le_refl _⟩, BK293, BK297, ⟨Xi⟩⟩
            ·have c50b0 : decide (20 < (((rd_T64 l0_2 x24_2).f3).size : Int)) = false := decide_eq_false c50
             have c50b1 : decide (20 < ((rd_T64 l0_2 x24_2).f3).size) = false := decide_eq_false (by omega)
             clear c50
             have H' := Aside0.mk H
             clear H
             have hnb54 := NB297_293.out
             have hnc54 := NB293_297.out
             obtain ⟨hcz55_0, hcz55_1, hcz55_2, hcz55_3, hcz55_4⟩ := Xc5 BK297
             obtain ⟨hfz55_0, hfz55_1, hfz55_2, hfz55_3, hfz55_4⟩ := Xf5 BK297
             obtain ⟨hcz56_0, hcz56_1, hcz56_2⟩ := Xc3 BK293
             obtain ⟨hfz56_0, hfz56_1, hfz56_2⟩ := Xf3 BK293
             (try go_wp2)
             repeat (go_quiet (first | (go_at_call 69; (with_reducible refine (impl_within.calls ((rd_T64 l0_2 x24_2).f0) 1 (wrap64 (a0_1 - 1)) true _ A19.out).mono ?_); rintro e w' ⟨rfl, ⟨nd, rfl⟩⟩; (try exact Xdd)) | (go_at_call 69; (with_reducible refine (impl_within.calls ((rd_T64 l0_2 x24_2).f1) 1 8 true _ A46.out).mono ?_); rintro e w' ⟨rfl, ⟨nd, rfl⟩⟩; (try exact Xdd)) | (go_at_call 69; (with_reducible refine (impl_within.calls ((rd_T64 l0_2 x24_2).f2) 0 99 true _ A48.out).mono ?_); rintro e w' ⟨rfl, ⟨nd, rfl⟩⟩; (try exact Xdd))); try go_wp2)
             go_meet
             case rel => exact ⟨_, (decide ((((rd_T64 l0_2 x24_2).f4).length : Int) > 12)), Xr, H', ⟨by have := HJ1.out; have := HK2.out; first | omega | exact Nat.le_refl _⟩, BK293, BK297, ⟨Xi⟩⟩
           ·replace c49 := Bool.eq_false_iff.mpr c49
            subst c49
            (first | rw [if_neg (show ¬ (false = true) by decide)] at H | skip)
            have H' := Aside0.mk H
            clear H
            have hnb57 := NB297_293.out
            have hnc57 := NB293_297.out
            obtain ⟨hcz58_0, hcz58_1, hcz58_2, hcz58_3, hcz58_4⟩ := Xc5 BK297
            obtain ⟨hfz58_0, hfz58_1, hfz58_2, hfz58_3, hfz58_4⟩ := Xf5 BK297
            obtain ⟨hcz59_0, hcz59_1, hcz59_2⟩ := Xc3 BK293
            obtain ⟨hfz59_0, hfz59_1, hfz59_2⟩ := Xf3 BK293
            (try go_wp2)
            repeat (go_quiet (first | (go_at_call 69; (with_reducible refine (impl_within.calls ((rd_T64 l0_2 x24_2).f0) 1 (wrap64 (a0_1 - 1)) true _ A19.out).mono ?_); rintro e w' ⟨rfl, ⟨nd, rfl⟩⟩; (try exact Xdd)) | (go_at_call 69; (with_reducible refine (impl_within.calls ((rd_T64 l0_2 x24_2).f1) 1 8 true _ A46.out).mono ?_); rintro e w' ⟨rfl, ⟨nd, rfl⟩⟩; (try exact Xdd)) | (go_at_call 69; (with_reducible refine (impl_within.calls ((rd_T64 l0_2 x24_2).f2) 0 99 false _ A48.out).mono ?_); rintro e w' ⟨rfl, ⟨nd, rfl⟩⟩; (try exact Xdd))); try go_wp2)
            go_meet
            case rel => exact ⟨_, (true), Xr, H', ⟨by have := HJ1.out; have := HK2.out; first | omega | exact Nat.le_refl _⟩, BK293, BK297, ⟨Xi⟩⟩
          ·replace c47 := Bool.eq_false_iff.mpr c47
           subst c47
           (first | rw [if_neg (show ¬ (false = true) by decide)] at H | skip)
           have H' := Aside0.mk H
           clear H
           have hnb60 := NB297_293.out
           have hnc60 := NB293_297.out
           obtain ⟨hcz61_0, hcz61_1, hcz61_2, hcz61_3, hcz61_4⟩ := Xc5 BK297
           obtain ⟨hfz61_0, hfz61_1, hfz61_2, hfz61_3, hfz61_4⟩ := Xf5 BK297
           obtain ⟨hcz62_0, hcz62_1, hcz62_2⟩ := Xc3 BK293
           obtain ⟨hfz62_0, hfz62_1, hfz62_2⟩ := Xf3 BK293
           (try go_wp2)
           repeat (go_quiet (first | (go_at_call 69; (with_reducible refine (impl_within.calls ((rd_T64 l0_2 x24_2).f0) 1 (wrap64 (a0_1 - 1)) true _ A19.out).mono ?_); rintro e w' ⟨rfl, ⟨nd, rfl⟩⟩; (try exact Xdd)) | (go_at_call 69; (with_reducible refine (impl_within.calls ((rd_T64 l0_2 x24_2).f1) 1 8 false _ A46.out).mono ?_); rintro e w' ⟨rfl, ⟨nd, rfl⟩⟩; (try exact Xdd))); try go_wp2)
           go_meet
           case rel => exact ⟨_, (true), Xr, H', ⟨by have := HJ1.out; have := HK2.out; first | omega | exact Nat.le_refl _⟩, BK293, BK297, ⟨Xi⟩⟩
        ·replace c20 := Bool.eq_false_iff.mpr c20
         subst c20
         (first | rw [if_neg (show ¬ (false = true) by decide)] at H | skip)
         have H' := Aside0.mk H
         clear H
         have hnb63 := NB297_293.out
         have hnc63 := NB293_297.out
         obtain ⟨hcz64_0, hcz64_1, hcz64_2, hcz64_3, hcz64_4⟩ := Xc5 BK297
         obtain ⟨hfz64_0, hfz64_1, hfz64_2, hfz64_3, hfz64_4⟩ := Xf5 BK297
         obtain ⟨hcz65_0, hcz65_1, hcz65_2⟩ := Xc3 BK293
         obtain ⟨hfz65_0, hfz65_1, hfz65_2⟩ := Xf3 BK293
         (try go_wp2)
         repeat (go_quiet (first | (go_at_call 69; (with_reducible refine (impl_within.calls ((rd_T64 l0_2 x24_2).f0) 1 (wrap64 (a0_1 - 1)) false _ A19.out).mono ?_); rintro e w' ⟨rfl, ⟨nd, rfl⟩⟩; (try exact Xdd))); try go_wp2)
         go_meet
         case rel => exact ⟨_, (true), Xr, H', ⟨by have := HJ1.out; have := HK2.out; first | omega | exact Nat.le_refl _⟩, BK293, BK297, ⟨Xi⟩⟩
       case rest =>
        clear HC14
        (try clear c9); (try clear c11); (try clear c11b0); (try clear c12); (try clear c12b0); (try clear c13); (try clear c13b0); (try clear hcz10_0); (try clear hcz10_1); (try clear hcz10_2); (try clear hcz17_0); (try clear hcz17_1); (try clear hcz17_2); (try clear hcz17_3); (try clear hcz17_4); (try clear hfz10_0); (try clear hfz10_1); (try clear hfz10_2); (try clear hfz17_0); (try clear hfz17_1); (try clear hfz17_2); (try clear hfz17_3); (try clear hfz17_4); (try clear hx296_0); (try clear hx296_1); (try clear hx296_2); (try clear hx296_3); (try clear hx296_4); (try clear p296); (try clear q296)
        obtain ⟨kq, x75_13, rfl, HA, HJ13, BK293, BK297, HB⟩ := hcut
        cases kq with
        | zero => cases HA.out
        | succ kj13 =>
         have H := HA.out
         clear HA
         simp only [impl_DocOK.j2] at H
         by_cases c66 : x75_13 = true
         ·subst c66
          (first | rw [if_pos rfl] at H | skip)
          obtain rfl := Option.some.inj H
          go_wp2
          go_ret
          exact ⟨Xe, Xi⟩
         ·replace c66 := Bool.eq_false_iff.mpr c66
          subst c66
          (first | rw [if_neg (show ¬ (false = true) by decide)] at H | skip)
          have H' := Aside0.mk H
          clear H
          go_wp2
          go_roundg kj13
          case measure => have := HJ1.out; have := HK2.out; have := HJ13.out; omega
          case rel => exact ⟨(wrap64 (x24_2 + 1)), Xr, H', ⟨by have := HJ1.out; have := HK2.out; have := HJ13.out; omega⟩, BK293, ⟨Xi⟩⟩
      ·have H' := Aside0.mk H
       clear H
       go_wp2_with (first | ((with_reducible refine gate_dst (N := 77) rfl ?_); (try (refine gate_guard (by rfl) ?_; dsimp only)); refine XM.make_event Value.bool ?hg (N := 77) ?hd 122 ?hr ?_; (case hd => rfl); (case hg => rfl); (case hr => rfl); intro gb304 hg w67 hbox hb; have BK304 := Aside0.mk (hbox); have GE304 := Xge hg Xi; replace HB := Aside0.mk (below_step Xi hb); have NB293_304 := Xnb hg BK293; have NB304_293 := Xns NB293_304; replace BK293 := Xbb BK293 hb; clear hb hbox hg; have hnb68 := NB293_304.out; have hnc68 := NB304_293.out; obtain ⟨hcz69_0, hcz69_1, hcz69_2⟩ := Xc3 BK293; obtain ⟨hfz69_0, hfz69_1, hfz69_2⟩ := Xf3 BK293))
       go_loopg [81] k2 (fun kq v81 w' => ∃ (x81_3 : Int) (x305000_3 : List (Int × Bool)), v81 = .int .i64 x81_3 ∧ Aside0 (impl_DocOK.l1 kq l0_2 (l0_2.length : Int) x81_3 a0_0 a0_1 l0_2 x305000_3 = some r) ∧ Aside0 (kq ≤ k2) ∧ Aside0 (w'.heap[gb293]? = some (.cells #[.int .i64 a0_0, .int .i64 a0_1, (.slice A0_2 l0_2.length c0_2)] 35 (0, 0))) ∧ Aside0 (w'.heap[gb304]? = some (XM.mapObj Value.bool x305000_3)) ∧ Aside0 (Below w.heap.size w w'))
       case atStart => exact ⟨(0), (([] : List (Int × Bool))), Xr, H', Xkr, BK293, BK304, ⟨Xi⟩⟩
       case round =>
        clear H'
        (try clear c9); (try clear c11); (try clear c11b0); (try clear hcz10_0); (try clear hcz10_1); (try clear hcz10_2); (try clear hcz69_0); (try clear hcz69_1); (try clear hcz69_2); (try clear hfz10_0); (try clear hfz10_1); (try clear hfz10_2); (try clear hfz69_0); (try clear hfz69_1); (try clear hfz69_2)
        obtain ⟨x81_3, x305000_3, rfl, HA, HK3, BK293, BK304, HB⟩ := hrel
        cases gk with
        | zero => cases HA.out
        | succ k3 =>
         have H := HA.out
         clear HA
         simp only [impl_DocOK.l1] at H
         obtain ⟨c70b0, H⟩ | ⟨c70b0, H⟩ := Xit H
         ·obtain ⟨c71b0, H⟩ := Xid H
          obtain ⟨c72b0, H⟩ := Xid H
          have H' := Aside0.mk H
          clear H
          obtain ⟨ad305, A305_4, c305_4, e305, p305, q305, hx305_0, hx305_1, hx305_2, hx305_3, hx305_4, HC305_4, HR305_4⟩ := at_B64 HR0_2 x81_3 Xa Xa HB
          cases e305
          go_wp2_with (first | ((with_reducible refine gate_dst (N := 7) rfl ?_); (try (refine gate_guard (by rfl) ?_; dsimp only)); refine Xbox 7 #[.int .i64 0, .int .i64 0, .int .i64 0, .string (⟨#[]⟩ : ByteArray), .slice none 0 0] 64 ?_; intro gb306 hg w73 hbox hb; have BK306 := Aside0.mk (hbox); have GE306 := Xge hg Xi; replace HB := Aside0.mk (below_step Xi hb); have NB293_306 := Xnb hg BK293; have NB306_293 := Xns NB293_306; replace BK293 := Xbb BK293 hb; have NB304_306 := Xnb hg BK304; have NB306_304 := Xns NB304_306; replace BK304 := Xbb BK304 hb; clear hb hbox hg; have hnb74 := NB306_293.out; have hnc74 := NB293_306.out; have hnb75 := NB306_304.out; have hnc75 := NB304_306.out; obtain ⟨hcz76_0, hcz76_1, hcz76_2, hcz76_3, hcz76_4⟩ := Xc5 BK306; obtain ⟨hfz76_0, hfz76_1, hfz76_2, hfz76_3, hfz76_4⟩ := Xf5 BK306) | ((with_reducible refine gate_store (t := 64) (p := 7) rfl ?_); refine store_event (t := 64) (p := 7) (v := ?vo_w77) (w1 := (((((w73.setCell ⟨gb306, 0, none⟩ (.int .i64 ((rd_T64 l0_2 x81_3).f0))).setCell ⟨gb306, 1, none⟩ (.int .i64 ((rd_T64 l0_2 x81_3).f1))).setCell ⟨gb306, 2, none⟩ (.int .i64 ((rd_T64 l0_2 x81_3).f2))).setCell ⟨gb306, 3, none⟩ (.string ((rd_T64 l0_2 x81_3).f3))).setCell ⟨gb306, 4, none⟩ (.slice A305_4 ((rd_T64 l0_2 x81_3).f4).length c305_4))) ?hg ?ho ?hn ?hr ?_; (case ho => rfl); (case hg => rfl); (case hn => rfl); (case hr => first | (go_simp; done) | (go_simp; rfl)); intro w77 hw; have n0_ : Aside0 (w77.heap[gb293]? = some (.cells #[.int .i64 a0_0, .int .i64 a0_1, .slice (some ad305) l0_2.length c0_2] 35 (0, 0))) := ⟨(by rw [hw]; exact (by (with_reducible repeat (first | refine blk_drewN ?_ _ | refine blk_drew ?_ | refine blk_alloc ?_ _)); refine blk_far ?_ NB293_306.out _; (with_reducible repeat (first | refine blk_drewN ?_ _ | refine blk_drew ?_ | refine blk_alloc ?_ _)); refine blk_far ?_ NB293_306.out _; (with_reducible repeat (first | refine blk_drewN ?_ _ | refine blk_drew ?_ | refine blk_alloc ?_ _)); refine blk_far ?_ NB293_306.out _; (with_reducible repeat (first | refine blk_drewN ?_ _ | refine blk_drew ?_ | refine blk_alloc ?_ _)); refine blk_far ?_ NB293_306.out _; (with_reducible repeat (first | refine blk_drewN ?_ _ | refine blk_drew ?_ | refine blk_alloc ?_ _)); refine blk_far ?_ NB293_306.out _; (with_reducible repeat (first | refine blk_drewN ?_ _ | refine blk_drew ?_ | refine blk_alloc ?_ _)); exact BK293.out))⟩; have n1_ : Aside0 (w77.heap[gb304]? = some (XM.mapObj Value.bool x305000_3)) := ⟨(by rw [hw]; exact (by (with_reducible repeat (first | refine blk_drewN ?_ _ | refine blk_drew ?_ | refine blk_alloc ?_ _)); refine XM.blk_far ?_ NB304_306.out _; (with_reducible repeat (first | refine blk_drewN ?_ _ | refine blk_drew ?_ | refine blk_alloc ?_ _)); refine XM.blk_far ?_ NB304_306.out _; (with_reducible repeat (first | refine blk_drewN ?_ _ | refine blk_drew ?_ | refine blk_alloc ?_ _)); refine XM.blk_far ?_ NB304_306.out _; (with_reducible repeat (first | refine blk_drewN ?_ _ | refine blk_drew ?_ | refine blk_alloc ?_ _)); refine XM.blk_far ?_ NB304_306.out _; (with_reducible repeat (first | refine blk_drewN ?_ _ | refine blk_drew ?_ | refine blk_alloc ?_ _)); refine XM.blk_far ?_ NB304_306.out _; (with_reducible repeat (first | refine blk_drewN ?_ _ | refine blk_drew ?_ | refine blk_alloc ?_ _)); exact BK304.out))⟩; have n2_ : Aside0 (w77.heap[gb306]? = some (.cells #[.int .i64 ((rd_T64 l0_2 x81_3).f0), .int .i64 ((rd_T64 l0_2 x81_3).f1), .int .i64 ((rd_T64 l0_2 x81_3).f2), .string ((rd_T64 l0_2 x81_3).f3), .slice A305_4 ((rd_T64 l0_2 x81_3).f4).length c305_4] 64 (0, 0))) := ⟨(by rw [hw]; exact (by (with_reducible repeat (first | refine blk_drewN ?_ _ | refine blk_drew ?_ | refine blk_alloc ?_ _)); refine blk_put (cs := #[.int .i64 ((rd_T64 l0_2 x81_3).f0), .int .i64 ((rd_T64 l0_2 x81_3).f1), .int .i64 ((rd_T64 l0_2 x81_3).f2), .string ((rd_T64 l0_2 x81_3).f3), .slice none 0 0]) ?_ 4 _ rfl; (with_reducible repeat (first | refine blk_drewN ?_ _ | refine blk_drew ?_ | refine blk_alloc ?_ _)); refine blk_put (cs := #[.int .i64 ((rd_T64 l0_2 x81_3).f0), .int .i64 ((rd_T64 l0_2 x81_3).f1), .int .i64 ((rd_T64 l0_2 x81_3).f2), .string (⟨#[]⟩ : ByteArray), .slice none 0 0]) ?_ 3 _ rfl; (with_reducible repeat (first | refine blk_drewN ?_ _ | refine blk_drew ?_ | refine blk_alloc ?_ _)); refine blk_put (cs := #[.int .i64 ((rd_T64 l0_2 x81_3).f0), .int .i64 ((rd_T64 l0_2 x81_3).f1), .int .i64 0, .string (⟨#[]⟩ : ByteArray), .slice none 0 0]) ?_ 2 _ rfl; (with_reducible repeat (first | refine blk_drewN ?_ _ | refine blk_drew ?_ | refine blk_alloc ?_ _)); refine blk_put (cs := #[.int .i64 ((rd_T64 l0_2 x81_3).f0), .int .i64 0, .int .i64 0, .string (⟨#[]⟩ : ByteArray), .slice none 0 0]) ?_ 1 _ rfl; (with_reducible repeat (first | refine blk_drewN ?_ _ | refine blk_drew ?_ | refine blk_alloc ?_ _)); refine blk_put (cs := #[.int .i64 0, .int .i64 0, .int .i64 0, .string (⟨#[]⟩ : ByteArray), .slice none 0 0]) ?_ 0 _ rfl; (with_reducible repeat (first | refine blk_drewN ?_ _ | refine blk_drew ?_ | refine blk_alloc ?_ _)); exact BK306.out))⟩; have n3_ : Aside0 (Below w.heap.size w w77) := ⟨(by rw [hw]; exact Xi)⟩; clear hw; clear BK293; clear BK304; clear BK306; clear HB; have BK293 := n0_; have BK304 := n1_; have BK306 := n2_; have HB := n3_; clear n0_ n1_ n2_ n3_; obtain ⟨hcz78_0, hcz78_1, hcz78_2, hcz78_3, hcz78_4⟩ := Xc5 BK306; obtain ⟨hfz78_0, hfz78_1, hfz78_2, hfz78_3, hfz78_4⟩ := Xf5 BK306))
          go_loopg [88] k3 (fun kq v88 w' => ∃ (x88_4 : Int) (x305000_4 : List (Int × Bool)), v88 = .int .i64 x88_4 ∧ Aside0 (impl_DocOK.l2 kq l0_2 (l0_2.length : Int) x81_3 ((rd_T64 l0_2 x81_3).f4) (((rd_T64 l0_2 x81_3).f4).length : Int) x88_4 a0_0 a0_1 l0_2 x305000_4 = some r) ∧ Aside0 (kq ≤ k3) ∧ Aside0 (w'.heap[gb293]? = some (.cells #[.int .i64 a0_0, .int .i64 a0_1, (.slice (some ad305) l0_2.length c0_2)] 35 (0, 0))) ∧ Aside0 (w'.heap[gb304]? = some (XM.mapObj Value.bool x305000_4)) ∧ Aside0 (w'.heap[gb306]? = some (.cells #[.int .i64 ((rd_T64 l0_2 x81_3).f0), .int .i64 ((rd_T64 l0_2 x81_3).f1), .int .i64 ((rd_T64 l0_2 x81_3).f2), .string ((rd_T64 l0_2 x81_3).f3), (.slice A305_4 ((rd_T64 l0_2 x81_3).f4).length c305_4)] 64 (0, 0))) ∧ Aside0 (Below w.heap.size w w'))
          case atStart => exact ⟨(0), (x305000_3), Xr, H', Xkr, BK293, BK304, BK306, ⟨Xi⟩⟩
          case round =>
           clear H'
           (try clear c9); (try clear c11); (try clear c11b0); (try clear c70); (try clear c70b0); (try clear c71); (try clear c71b0); (try clear c72); (try clear c72b0); (try clear hcz10_0); (try clear hcz10_1); (try clear hcz10_2); (try clear hcz69_0); (try clear hcz69_1); (try clear hcz69_2); (try clear hcz76_0); (try clear hcz76_1); (try clear hcz76_2); (try clear hcz76_3); (try clear hcz76_4); (try clear hcz78_0); (try clear hcz78_1); (try clear hcz78_2); (try clear hcz78_3); (try clear hcz78_4); (try clear hfz10_0); (try clear hfz10_1); (try clear hfz10_2); (try clear hfz69_0); (try clear hfz69_1); (try clear hfz69_2); (try clear hfz76_0); (try clear hfz76_1); (try clear hfz76_2); (try clear hfz76_3); (try clear hfz76_4); (try clear hfz78_0); (try clear hfz78_1); (try clear hfz78_2); (try clear hfz78_3); (try clear hfz78_4); (try clear hx305_0); (try clear hx305_1); (try clear hx305_2); (try clear hx305_3); (try clear hx305_4); (try clear p305); (try clear q305)
           obtain ⟨x88_4, x305000_4, rfl, HA, HK4, BK293, BK304, BK306, HB⟩ := hrel
           cases gk with
           | zero => cases HA.out
           | succ k4 =>
            have H := HA.out
            clear HA
            simp only [impl_DocOK.l2] at H
            obtain ⟨c79b0, H⟩ | ⟨c79b0, H⟩ := Xit H
            ·obtain ⟨c80b0, H⟩ := Xid H
             obtain ⟨c81b0, H⟩ := Xid H
             have HC82 := Aside0.mk H
             clear H
             have p307 : 0 ≤ (x88_4 : Int) := of_decide_eq_true Xa
             have q307 : x88_4 < (((rd_T64 l0_2 x81_3).f4).length : Int) := of_decide_eq_true Xa
             obtain ⟨ad307, e307, hx307_0⟩ := Kd.at_int HR305_4.out x88_4 p307 q307
             cases e307
             replace hx307_0 := Xm HB hx307_0
             replace p307 := eq_true p307
             replace q307 := eq_true q307
             go_upto_region 16 with (fail)
             go_cut [105] (fun v105 wc => ∃ (kq : Nat) (x105_81 : Bool), v105 = .bool x105_81 ∧ Aside0 (impl_DocOK.j5 kq (rd ((rd_T64 l0_2 x81_3).f4) x88_4) l0_2 (l0_2.length : Int) x81_3 ((rd_T64 l0_2 x81_3).f4) (((rd_T64 l0_2 x81_3).f4).length : Int) x88_4 x105_81 a0_0 a0_1 l0_2 x305000_4 = some r) ∧ Aside0 (kq ≤ k4) ∧ Aside0 (wc.heap[gb293]? = some (.cells #[.int .i64 a0_0, .int .i64 a0_1, (.slice (some ad305) l0_2.length c0_2)] 35 (0, 0))) ∧ Aside0 (wc.heap[gb304]? = some (XM.mapObj Value.bool x305000_4)) ∧ Aside0 (wc.heap[gb306]? = some (.cells #[.int .i64 ((rd_T64 l0_2 x81_3).f0), .int .i64 ((rd_T64 l0_2 x81_3).f1), .int .i64 ((rd_T64 l0_2 x81_3).f2), .string ((rd_T64 l0_2 x81_3).f3), (.slice (some ad307) ((rd_T64 l0_2 x81_3).f4).length c305_4)] 64 (0, 0))) ∧ Aside0 (Below w.heap.size w wc))
             case first =>
              have H := HC82.out
              clear HC82
              obtain ⟨c83, H⟩ | ⟨c83, H⟩ := Xiu H
              ·have c83b0 : XM.get false x305000_4 (rd ((rd_T64 l0_2 x81_3).f4) x88_4) = true := c83
               clear c83
               (first | rw [c83b0] | (simp only [i64_w, i32_w]; rw [c83b0]) | skip)
               have H' := Aside0.mk H
               clear H
               go_wp2_with (first | ((with_reducible refine gate_dst (N := 94) rfl ?_); (try (refine gate_guard (by rfl) ?_; dsimp only)); refine XM.lookup_event (enc := Value.bool) rfl (N := 94) rfl 122 _ _ rfl false (rd ((rd_T64 l0_2 x81_3).f4) x88_4) (g := gb304) (xs := x305000_4) rfl rfl (by first | (exact BK304.out)) Try.underlying122 Try.underlying3 (by first | rfl | (go_simp; done) | (go_simp; rfl)) ?_))
               go_meet
               case rel => exact ⟨_, (true), Xr, H', ⟨by have := HJ1.out; have := HK2.out; have := HK3.out; have := HK4.out; first | omega | exact Nat.le_refl _⟩, BK293, BK304, BK306, ⟨Xi⟩⟩
              ·have c83b0 : XM.get false x305000_4 (rd ((rd_T64 l0_2 x81_3).f4) x88_4) = false := by simpa using c83
               clear c83
               (first | rw [c83b0] | (simp only [i64_w, i32_w]; rw [c83b0]) | skip)
               obtain ⟨c84, H⟩ | ⟨c84, H⟩ := Xiu H
               ·have c84b0 : ((rd ((rd_T64 l0_2 x81_3).f4) x88_4) == a0_0) = true := beq_iff_eq.mpr c84
                have c84b1 : ((rd ((rd_T64 l0_2 x81_3).f4) x88_4) != a0_0) = false := bne_eq_false_iff_eq.mpr c84
                clear c84
                have H' := Aside0.mk H
                clear H
                have hnb85 := NB293_304.out
                have hnc85 := NB304_293.out
                have hnb86 := NB293_306.out
                have hnc86 := NB306_293.out
                obtain ⟨hcz87_0, hcz87_1, hcz87_2⟩ := Xc3 BK293
                obtain ⟨hfz87_0, hfz87_1, hfz87_2⟩ := Xf3 BK293
                go_wp2_with (first | ((with_reducible refine gate_dst (N := 94) rfl ?_); (try (refine gate_guard (by rfl) ?_; dsimp only)); refine XM.lookup_event (enc := Value.bool) rfl (N := 94) rfl 122 _ _ rfl false (rd ((rd_T64 l0_2 x81_3).f4) x88_4) (g := gb304) (xs := x305000_4) rfl rfl (by first | (exact BK304.out)) Try.underlying122 Try.underlying3 (by first | rfl | (go_simp; done) | (go_simp; rfl)) ?_))
                go_meet
                case rel => exact ⟨_, (true), Xr, H', ⟨by have := HJ1.out; have := HK2.out; have := HK3.out; have := HK4.out; first | omega | exact Nat.le_refl _⟩, BK293, BK304, BK306, ⟨Xi⟩⟩
               ·have c84b0 : ((rd ((rd_T64 l0_2 x81_3).f4) x88_4) == a0_0) = false := beq_eq_false_iff_ne.mpr c84
                have c84b1 : ((rd ((rd_T64 l0_2 x81_3).f4) x88_4) != a0_0) = true := bne_iff_ne.mpr c84
                obtain ⟨t308, A88, H⟩ := Xbi H
                (try dsimp only at H)
                have H' := Aside0.mk H
                clear H
                have hnb89 := NB293_304.out
                have hnc89 := NB304_293.out
                have hnb90 := NB293_306.out
                have hnc90 := NB306_293.out
                obtain ⟨hcz91_0, hcz91_1, hcz91_2⟩ := Xc3 BK293
                obtain ⟨hfz91_0, hfz91_1, hfz91_2⟩ := Xf3 BK293
                go_wp2_with (first | ((with_reducible refine gate_dst (N := 94) rfl ?_); (try (refine gate_guard (by rfl) ?_; dsimp only)); refine XM.lookup_event (enc := Value.bool) rfl (N := 94) rfl 122 _ _ rfl false (rd ((rd_T64 l0_2 x81_3).f4) x88_4) (g := gb304) (xs := x305000_4) rfl rfl (by first | (exact BK304.out)) Try.underlying122 Try.underlying3 (by first | rfl | (go_simp; done) | (go_simp; rfl)) ?_) | (go_at_call 83; (with_reducible refine (impl_Doc_has.calls k4 gb293 a0_0 a0_1 (some ad305) c0_2 l0_2 (rd ((rd_T64 l0_2 x81_3).f4) x88_4) t308 _ ?side1 ?side2 ?side3 A88.out).mono ?_); (case side1 => exact BK293.out); (case side2 => exact Xc HR0_2); (case side3 => exact HC0_2.out); rintro e w92 ⟨rfl, hb⟩; replace BK293 := Xbb BK293 hb; replace BK304 := Xbb BK304 hb; replace BK306 := Xbb BK306 hb; replace HB := Aside0.mk (below_step Xi hb); clear hb))
                go_meet
                case rel => exact ⟨_, (!t308), Xr, H', ⟨by have := HJ1.out; have := HK2.out; have := HK3.out; have := HK4.out; first | omega | exact Nat.le_refl _⟩, BK293, BK304, BK306, ⟨Xi⟩⟩
             case rest =>
              clear HC82
              (try clear c9); (try clear c11); (try clear c11b0); (try clear c70); (try clear c70b0); (try clear c71); (try clear c71b0); (try clear c72); (try clear c72b0); (try clear c79); (try clear c79b0); (try clear c80); (try clear c80b0); (try clear c81); (try clear c81b0); (try clear hcz10_0); (try clear hcz10_1); (try clear hcz10_2); (try clear hcz69_0); (try clear hcz69_1); (try clear hcz69_2); (try clear hcz76_0); (try clear hcz76_1); (try clear hcz76_2); (try clear hcz76_3); (try clear hcz76_4); (try clear hcz78_0); (try clear hcz78_1); (try clear hcz78_2); (try clear hcz78_3); (try clear hcz78_4); (try clear hfz10_0); (try clear hfz10_1); (try clear hfz10_2); (try clear hfz69_0); (try clear hfz69_1); (try clear hfz69_2); (try clear hfz76_0); (try clear hfz76_1); (try clear hfz76_2); (try clear hfz76_3); (try clear hfz76_4); (try clear hfz78_0); (try clear hfz78_1); (try clear hfz78_2); (try clear hfz78_3); (try clear hfz78_4); (try clear hx305_0); (try clear hx305_1); (try clear hx305_2); (try clear hx305_3); (try clear hx305_4); (try clear hx307_0); (try clear p305); (try clear p307); (try clear q305); (try clear q307)
              obtain ⟨kq, x105_81, rfl, HA, HJ81, BK293, BK304, BK306, HB⟩ := hcut
              cases kq with
              | zero => cases HA.out
              | succ kj81 =>
               have H := HA.out
               clear HA
               simp only [impl_DocOK.j5] at H
               by_cases c93 : x105_81 = true
               ·subst c93
                (first | rw [if_pos rfl] at H | skip)
                obtain rfl := Option.some.inj H
                go_wp2
                go_ret
                exact ⟨Xe, Xi⟩
               ·replace c93 := Bool.eq_false_iff.mpr c93
                subst c93
                (first | rw [if_neg (show ¬ (false = true) by decide)] at H | skip)
                have H' := Aside0.mk H
                clear H
                go_wp2_with (first | ((with_reducible refine XM.gate_update (t := 122) rfl ?_); refine XM.update_event (enc := Value.bool) rfl rfl 122 _ _ _ rfl (rd ((rd_T64 l0_2 x81_3).f4) x88_4) true (g := gb304) (xs := x305000_4) rfl rfl rfl (by first | (exact BK304.out)) Try.underlying122 Try.underlying3 ?_; intro w94 hbox hg; replace BK293 := Aside0.mk (blk_grown (g := gb293) (o := .cells #[.int .i64 a0_0, .int .i64 a0_1, .slice (some ad305) l0_2.length c0_2] 35 (0, 0)) BK293.out hg (fun e_ => NB293_304.out (Option.some.inj e_))); replace BK304 := Aside0.mk (hbox); replace BK306 := Aside0.mk (blk_grown (g := gb306) (o := .cells #[.int .i64 ((rd_T64 l0_2 x81_3).f0), .int .i64 ((rd_T64 l0_2 x81_3).f1), .int .i64 ((rd_T64 l0_2 x81_3).f2), .string ((rd_T64 l0_2 x81_3).f3), .slice (some ad307) ((rd_T64 l0_2 x81_3).f4).length c305_4] 64 (0, 0)) BK306.out hg (fun e_ => NB306_304.out (Option.some.inj e_))); replace HB := Aside0.mk (Below.grown Xi hg HB.out.size (fun k_ e_ => Option.some.inj e_ ▸ GE304.out)); clear hbox hg))
                go_roundg kj81
                case measure => have := HJ1.out; have := HK2.out; have := HK3.out; have := HK4.out; have := HJ81.out; omega
                case rel => exact ⟨(wrap64 (x88_4 + 1)), (XM.put x305000_4 (rd ((rd_T64 l0_2 x81_3).f4) x88_4) true), Xr, H', ⟨by have := HJ1.out; have := HK2.out; have := HK3.out; have := HK4.out; have := HJ81.out; omega⟩, BK293, BK304, BK306, ⟨Xi⟩⟩
            ·have H' := Aside0.mk H
             clear H
             go_wp2
             go_roundg k4
             case measure => have := HJ1.out; have := HK2.out; have := HK3.out; have := HK4.out; omega
             case rel => exact ⟨(wrap64 (x81_3 + 1)), (x305000_4), Xr, H', ⟨by have := HJ1.out; have := HK2.out; have := HK3.out; have := HK4.out; omega⟩, BK293, BK304, ⟨Xi⟩⟩
         ·have HC95 := Aside0.mk H
          clear H
          go_upto_region 21 with (fail)
          go_cut [125] (fun v125 wc => ∃ (kq : Nat) (x125_94 : Bool), v125 = .bool x125_94 ∧ Aside0 (impl_DocOK.j6 kq x125_94 a0_0 a0_1 l0_2 = some r) ∧ Aside0 (kq ≤ k3) ∧ Aside0 (wc.heap[gb293]? = some (.cells #[.int .i64 a0_0, .int .i64 a0_1, (.slice A0_2 l0_2.length c0_2)] 35 (0, 0))) ∧ Aside0 (wc.heap[gb304]? = some (XM.mapObj Value.bool x305000_3)) ∧ Aside0 (Below w.heap.size w wc))
          case first =>
           have H := HC95.out
           clear HC95
           obtain ⟨t309, A96, H⟩ := Xbi H
           (try dsimp only at H)
           by_cases c97 : t309 = true
           ·subst c97
            (first | rw [if_pos rfl] at H | skip)
            obtain ⟨c98, H⟩ | ⟨c98, H⟩ := Xiu H
            ·have c98b0 : ((x305000_3.length : Int) == (wrap64 ((l0_2.length : Int) - 1))) = true := beq_iff_eq.mpr c98
             have c98b1 : ((x305000_3.length : Int) != (wrap64 ((l0_2.length : Int) - 1))) = false := bne_eq_false_iff_eq.mpr c98
             clear c98
             (first | rw [c98b0] | (simp only [i64_w, i32_w]; rw [c98b0]) | skip)
             obtain ⟨t310, A99, H⟩ := Xbi H
             (try dsimp only at H)
             have H' := Aside0.mk H
             clear H
             have hnb100 := NB293_304.out
             have hnc100 := NB304_293.out
             obtain ⟨hcz101_0, hcz101_1, hcz101_2⟩ := Xc3 BK293
             obtain ⟨hfz101_0, hfz101_1, hfz101_2⟩ := Xf3 BK293
             go_wp2_with (first | ((with_reducible refine gate_callee (f := 83) rfl ?_); refine Xgo 112 Try.func83 #[.pointer (some ⟨gb293, 0, none⟩), .int .i64 a0_0] ?_; (with_reducible refine (impl_Doc_has.calls k3 gb293 a0_0 a0_1 A0_2 c0_2 l0_2 a0_0 true _ ?side1 ?side2 ?side3 A96.out).mono ?_); (case side1 => exact BK293.out); (case side2 => exact Xc HR0_2); (case side3 => exact HC0_2.out); rintro e w102 ⟨rfl, hb⟩; refine ⟨_, rfl, ?_⟩; replace BK293 := Xbb BK293 hb; replace BK304 := Xbb BK304 hb; replace HB := Aside0.mk (below_step Xi hb); clear hb; obtain ⟨hcz103_0, hcz103_1, hcz103_2⟩ := Xc3 BK293; obtain ⟨hfz103_0, hfz103_1, hfz103_2⟩ := Xf3 BK293) | ((with_reducible refine gate_dst (N := 116) rfl ?_); (try (refine gate_guard (by rfl) ?_; dsimp only)); refine XM.len_event (enc := Value.bool) rfl (N := 116) rfl 122 _ rfl (g := gb304) (xs := x305000_3) rfl (by first | (exact BK304.out)) Try.underlying122 ?_) | (go_at_call 84; (with_reducible refine (impl_Doc_isDeep.calls k3 gb293 a0_0 a0_1 A0_2 c0_2 l0_2 t310 _ ?side1 ?side2 ?side3 A99.out).mono ?_); (case side1 => exact BK293.out); (case side2 => exact Xc HR0_2); (case side3 => exact HC0_2.out); rintro e w104 ⟨rfl, hb⟩; replace BK293 := Xbb BK293 hb; replace BK304 := Xbb BK304 hb; replace HB := Aside0.mk (below_step Xi hb); clear hb))
             go_meet
             case rel => exact ⟨_, (t310), Xr, H', ⟨by have := HJ1.out; have := HK2.out; have := HK3.out; first | omega | exact Nat.le_refl _⟩, BK293, BK304, ⟨Xi⟩⟩
            ·have c98b0 : ((x305000_3.length : Int) == (wrap64 ((l0_2.length : Int) - 1))) = false := beq_eq_false_iff_ne.mpr c98
             have c98b1 : ((x305000_3.length : Int) != (wrap64 ((l0_2.length : Int) - 1))) = true := bne_iff_ne.mpr c98
             (first | rw [c98b0] | (simp only [i64_w, i32_w]; rw [c98b0]) | skip)
             have H' := Aside0.mk H
             clear H
             have hnb105 := NB293_304.out
             have hnc105 := NB304_293.out
             obtain ⟨hcz106_0, hcz106_1, hcz106_2⟩ := Xc3 BK293
             obtain ⟨hfz106_0, hfz106_1, hfz106_2⟩ := Xf3 BK293
             go_wp2_with (first | ((with_reducible refine gate_callee (f := 83) rfl ?_); refine Xgo 112 Try.func83 #[.pointer (some ⟨gb293, 0, none⟩), .int .i64 a0_0] ?_; (with_reducible refine (impl_Doc_has.calls k3 gb293 a0_0 a0_1 A0_2 c0_2 l0_2 a0_0 true _ ?side1 ?side2 ?side3 A96.out).mono ?_); (case side1 => exact BK293.out); (case side2 => exact Xc HR0_2); (case side3 => exact HC0_2.out); rintro e w107 ⟨rfl, hb⟩; refine ⟨_, rfl, ?_⟩; replace BK293 := Xbb BK293 hb; replace BK304 := Xbb BK304 hb; replace HB := Aside0.mk (below_step Xi hb); clear hb; obtain ⟨hcz108_0, hcz108_1, hcz108_2⟩ := Xc3 BK293; obtain ⟨hfz108_0, hfz108_1, hfz108_2⟩ := Xf3 BK293) | ((with_reducible refine gate_dst (N := 116) rfl ?_); (try (refine gate_guard (by rfl) ?_; dsimp only)); refine XM.len_event (enc := Value.bool) rfl (N := 116) rfl 122 _ rfl (g := gb304) (xs := x305000_3) rfl (by first | (exact BK304.out)) Try.underlying122 ?_))
             go_meet
             case rel => exact ⟨_, (true), Xr, H', ⟨by have := HJ1.out; have := HK2.out; have := HK3.out; first | omega | exact Nat.le_refl _⟩, BK293, BK304, ⟨Xi⟩⟩
           ·replace c97 := Bool.eq_false_iff.mpr c97
            subst c97
            (first | rw [if_neg (show ¬ (false = true) by decide)] at H | skip)
            have H' := Aside0.mk H
            clear H
            have hnb109 := NB293_304.out
            have hnc109 := NB304_293.out
            obtain ⟨hcz110_0, hcz110_1, hcz110_2⟩ := Xc3 BK293
            obtain ⟨hfz110_0, hfz110_1, hfz110_2⟩ := Xf3 BK293
            go_wp2_with (first | ((with_reducible refine gate_callee (f := 83) rfl ?_); refine Xgo 112 Try.func83 #[.pointer (some ⟨gb293, 0, none⟩), .int .i64 a0_0] ?_; (with_reducible refine (impl_Doc_has.calls k3 gb293 a0_0 a0_1 A0_2 c0_2 l0_2 a0_0 false _ ?side1 ?side2 ?side3 A96.out).mono ?_); (case side1 => exact BK293.out); (case side2 => exact Xc HR0_2); (case side3 => exact HC0_2.out); rintro e w111 ⟨rfl, hb⟩; refine ⟨_, rfl, ?_⟩; replace BK293 := Xbb BK293 hb; replace BK304 := Xbb BK304 hb; replace HB := Aside0.mk (below_step Xi hb); clear hb))
            go_meet
            case rel => exact ⟨_, (true), Xr, H', ⟨by have := HJ1.out; have := HK2.out; have := HK3.out; first | omega | exact Nat.le_refl _⟩, BK293, BK304, ⟨Xi⟩⟩
          case rest =>
           clear HC95
           (try clear c9); (try clear c11); (try clear c11b0); (try clear c70); (try clear c70b0); (try clear hcz10_0); (try clear hcz10_1); (try clear hcz10_2); (try clear hcz69_0); (try clear hcz69_1); (try clear hcz69_2); (try clear hfz10_0); (try clear hfz10_1); (try clear hfz10_2); (try clear hfz69_0); (try clear hfz69_1); (try clear hfz69_2)
           obtain ⟨kq, x125_94, rfl, HA, HJ94, BK293, BK304, HB⟩ := hcut
           cases kq with
           | zero => cases HA.out
           | succ kj94 =>
            have H := HA.out
            clear HA
            simp only [impl_DocOK.j6] at H
            by_cases c112 : x125_94 = true
            ·subst c112
             (first | rw [if_pos rfl] at H | skip)
             obtain rfl := Option.some.inj H
             go_wp2
             go_ret
             exact ⟨Xe, Xi⟩
            ·replace c112 := Bool.eq_false_iff.mpr c112
             subst c112
             (first | rw [if_neg (show ¬ (false = true) by decide)] at H | skip)
             obtain ⟨t311, A113, H⟩ := Xbi H
             (try dsimp only at H)
             obtain rfl := Option.some.inj H
             try go_wp2_with (fail)
             replace BK293 := Aside0.mk (blk_drew BK293.out)
             replace BK304 := Aside0.mk (blk_drew BK304.out)
             replace HB := Aside0.mk (below_drew1 HB.out)
             refine start_ (n := 9) (S := fun w' => w'.cell? ⟨gb293, 0, none⟩ = some (.int .i64 a0_0) ∧ w'.cell? ⟨gb293, 1, none⟩ = some (.int .i64 a0_1) ∧ w'.cell? ⟨gb293, 2, none⟩ = some (.slice A0_2 l0_2.length c0_2)) (ds := []) #[false, false, false, false, false, false, false, false, false] (by kernel_rfl) rfl rfl ⟨(blk_cell BK293.out 0).trans rfl, (blk_cell BK293.out 1).trans rfl, (blk_cell BK293.out 2).trans rfl⟩ (fun hHeld => ?_); refine with_tabW impl_DocOK.tab23 impl_DocOK.bits23 (fun HT_ HW_ => ?_)
             generalize wc.drew = w114 at BK293 BK304 HB hHeld ⊢
             refine Xpu 0 126 (XW.bs 9 1) HT_.out ?_
             refine Xpu 4 130 (XW.bs 9 17) HT_.out ?_
             refine Xta 1 127 (XW.bs 9 19) HT_.out HW_.out hHeld ?_
             refine Xta 5 131 (XW.bs 9 51) HT_.out HW_.out hHeld ?_
             refine Xpu 6 132 (XW.bs 9 115) HT_.out ?_
             refine one_ (i := 2) (N := some 128) (XW.bs 9 119) rfl rfl (one_of HT_.out (by kernel_rfl)) (by decide) (fun K hK => ?_)
             refine goes_ Try.func80 (by kernel_rfl) rfl #[.pointer (some ⟨gb293, 0, none⟩), .slice none 0 0, .int .i64 a0_0] (by rfl) rfl rfl (by (try simp only [List.map_toArray, List.map_cons, List.map_nil]); first | done | rfl | (simp only [List.length_drop, List.length_take]; rfl)) ?_
             refine (impl_Doc_order.calls kj94 gb293 a0_0 a0_1 A0_2 c0_2 l0_2 (fun k_ => some k_ = (.slice none 0 0 : Value).ownBlock) (.slice none 0 0) ([] : List Int) a0_0 t311 w _ ?side1 ?side2 ?side3 ?side4 ?side5 A113.out).mono ?_
             (case side1 => exact Xi)
             (case side2 => exact BK293.out)
             (case side3 => exact Kd.C_kept_came k64_heap HR0_2.out Xi (fun k_ hs_ => (fun e_ => by simp [Value.ownBlock] at e_) hs_))
             (case side4 => exact HC0_2.out)
             (case side5 => exact Kd.R_nil _ _ _ _ _)
             rintro e w115 ⟨v312, rfl, ho0, hb, hkp⟩
             refine ⟨_, rfl, ?_⟩
             replace BK293 := Aside0.mk (blk_kept BK293.out hkp (fun hs_ => (fun e_ => by simp [Value.ownBlock] at e_) hs_))
             replace BK304 := Aside0.mk (blk_kept BK304.out hkp (fun hs_ => (fun e_ => by simp [Value.ownBlock] at e_) hs_))
             have HO313 := Aside0.mk (Kd.R_mono (ok' := fun k_ => True) ho0 (fun k_ hk_ => trivial))
             replace HB := Aside0.mk (hb)
             (try clear hb)
             (try clear hkp)
             (try clear ho0)
             obtain ⟨Ao116, co116, eo116⟩ := Kd.R_slice HO313.out
             (first | subst eo116 | (injection eo116 with f1_ f2_ f3_; have f4_ := f1_.symm; have f5_ := f3_.symm; clear f1_ f2_ f3_; subst f4_; subst f5_))
             refine hK.out _ _ ⟨(blk_cell BK293.out 0).trans rfl, (blk_cell BK293.out 1).trans rfl, (blk_cell BK293.out 2).trans rfl⟩ (fun hHeld => ?_)
             clear hK K
             refine Xno ?_
             refine Xpu 3 129 (XW.bs 9 127) HT_.out ?_
             refine Xpu 7 133 (XW.bs 9 255) HT_.out ?_
             refine Xpu 8 2 (XW.bs 9 511) HT_.out ?_
             refine done_ (done_of HT_.out (by kernel_rfl)) ?_
             try go_wp2_with (fail)
             go_ret
             exact ⟨Xe, Xi⟩

end Go.Proofs.Ytocelbmpnjnnbaa.XA
