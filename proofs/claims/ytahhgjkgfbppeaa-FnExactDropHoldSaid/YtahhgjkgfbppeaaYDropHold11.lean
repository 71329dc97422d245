/- Contracts of the program's functions: each Go function that is named below comes to what its Lean function says. Written by xprint.py (a program of this session's, over the kit's print). Conditions: each contract's own premises. -/
import Derived.Test.YtahhgjkgfbppeaaYDropHold0
import Derived.Test.YtahhgjkgfbppeaaYDropHold9
import Derived.Test.YtahhgjkgfbppeaaYDropHold10
namespace Go.Proofs.Ytahhgjkgfbppeaa.XA
open Go.RowKit Go.Proofs.YtahhgjkgfbppeaaW.PrintWords Go.Proofs.YtahhgjkgfbppeaaW.PrintLast Go.Proofs.YtahhgjkgfbppeaaW.PrintMore XW
attribute [local go_sem] max2_int min2_int max_two min_two max_three min_three max_four min_four   -- for this text's walks alone
set_option linter.unusedVariables false
set_option linter.unusedSimpArgs false

/-! ### impl_HoldsOK: function 142 -/
mutual
def impl_HoldsOK.j0 : Nat → List (S44) → Bool → Int → Int → List (S73) → Option (Bool)
 | 0, _, _, _, _, _ => none
 | k + 1, x1, x14, x306000, x306001, x306002 => if x14 = true then (some false) else (impl_HoldsOK.l0 k x1 x1 (x1.length : Int) 0 x306000 x306001 x306002)
def impl_HoldsOK.l0 : Nat → List (S44) → List (S44) → Int → Int → Int → Int → List (S73) → Option (Bool)
 | 0, _, _, _, _, _, _, _ => none
 | k + 1, x1, x15, x16, x17, x306000, x306001, x306002 => if x17 < x16 then (if 0 ≤ x17 then (if x17 < (x15.length : Int) then ((impl_Doc_isHold.f k x306000 x306001 x306002 ((rd_T44 x15 x17).f0) ((rd_T44 x15 x17).f1) ((rd_T44 x15 x17).f2)).bind fun t309 => (if t309 = true then (if x17 > 0 then (if 0 ≤ (wrap64 (x17 - 1)) then (if (wrap64 (x17 - 1)) < (x1.length : Int) then ((impl_compareHolds.f k ((rd_T44 x1 (wrap64 (x17 - 1))).f0) ((rd_T44 x1 (wrap64 (x17 - 1))).f1) ((rd_T44 x1 (wrap64 (x17 - 1))).f2) ((rd_T44 x15 x17).f0) ((rd_T44 x15 x17).f1) ((rd_T44 x15 x17).f2)).bind fun t311 => (if t311 ≥ 0 then (some false) else (impl_HoldsOK.l0 k x1 x15 x16 (wrap64 (x17 + 1)) x306000 x306001 x306002))) else (none)) else (none)) else (impl_HoldsOK.l0 k x1 x15 x16 (wrap64 (x17 + 1)) x306000 x306001 x306002)) else (some false))) else (none)) else (none)) else (some true)
end
def impl_HoldsOK.f (k : Nat) (a0_0 : Int) (a0_1 : Int) (l0_2 : List (S73)) (l1 : List (S44)) : Option (Bool) := (impl_DocOK.f k a0_0 a0_1 l0_2).bind fun t306 => (if t306 = true then (impl_HoldsOK.j0 k l1 (decide ((l1.length : Int) > 30)) a0_0 a0_1 l0_2) else (impl_HoldsOK.j0 k l1 true a0_0 a0_1 l0_2))
def impl_HoldsOK.T6 : Bool × List (List Nat × List Nat) := (true, [([], []), ([0], [0]), ([1], [1]), ([2, 1], [2]), ([3], [3]), ([4, 3], [3, 4]), ([5, 3, 3], [3, 5]), ([6], [6]), ([6], [6]), ([8, 6], [6, 8]), ([7, 9, 6], [6, 7, 9]), ([10, 6], [6, 10]), ([6], [6]), ([11, 12, 6, 6], [6, 11, 12]), ([13, 6], [6, 13]), ([6, 14, 3], [3, 6, 14]), ([3, 15], [3, 15])])
def impl_HoldsOK.B6 : List Nat := [0, 1, 3, 7, 15, 31, 63, 127, 127, 383, 1023, 2047, 127, 8191, 16383, 32767, 65535]
theorem impl_HoldsOK.tab6 : rtab .any (opsOf Try.f142 6) = impl_HoldsOK.T6 := by kernel_rfl
theorem impl_HoldsOK.bits6 : waitsOk impl_HoldsOK.T6.2 impl_HoldsOK.B6 = true := by kernel_rfl
set_option maxHeartbeats 8000000 in
set_option maxRecDepth 100000 in
theorem impl_HoldsOK.calls (k : Nat) (a0_0 : Int) (a0_1 : Int) (A0_2 : Option Addr) (c0_2 : Nat) (l0_2 : List (S73)) (A1 : Option Addr) (c1 : Nat) (l1 : List (S44)) (r : Bool) (w : World) (hr0_2 : Kd.C k73 w A0_2 l0_2.length l0_2) (hc0_2 : l0_2.length ≤ c0_2) (hr1 : Kd.C k44 w A1 l1.length l1) (hc1 : l1.length ≤ c1) (h : impl_HoldsOK.f k a0_0 a0_1 l0_2 l1 = some r) :
  Calls Try.prog 142 #[.agg #[.int .i64 a0_0, .int .i64 a0_1, .slice A0_2 l0_2.length c0_2], .slice A1 l1.length c1] w fun e w' => e = .returned (.bool r) ∧ Below w.heap.size w w' := by
 have hu33 := Try.underlying33
 have hu44 := Try.underlying44
 have HR0_2 := Aside0.mk hr0_2
 have HC0_2 := Aside0.mk hc0_2
 clear hr0_2 hc0_2
 have HR1 := Aside0.mk hr1
 have HC1 := Aside0.mk hc1
 clear hr1 hc1
 have HB := Aside0.mk (Below.refl w.heap.size w)
 have H : ((impl_DocOK.f k a0_0 a0_1 l0_2).bind fun t306 => (if t306 = true then (impl_HoldsOK.j0 k l1 (decide ((l1.length : Int) > 30)) a0_0 a0_1 l0_2) else (impl_HoldsOK.j0 k l1 true a0_0 a0_1 l0_2))) = some r := h
 clear h
 have HC3 := Aside0.mk H
 clear H
 go_enter Try.func142, Try.ntmps142
 go_upto_region 1 with (first | ((with_reducible refine gate_dst (N := 2) rfl ?_); (try (refine gate_guard (by rfl) ?_; dsimp only)); refine Xbox 2 #[.int .i64 a0_0, .int .i64 a0_1, .slice A0_2 l0_2.length c0_2] 33 ?_; intro gb305 hg w4 hbox hb; have BK305 := Aside0.mk (hbox); have GE305 := Xge hg Xi; replace HB := Aside0.mk (below_step Xi hb); clear hb hbox hg))
 (try simp only [XW.q0, XW.q1, XW.q2])
 go_cut [14] (fun v14 wc => ∃ (kq : Nat) (x14_2 : Bool), v14 = .bool x14_2 ∧ Aside0 (impl_HoldsOK.j0 kq l1 x14_2 a0_0 a0_1 l0_2 = some r) ∧ Aside0 (kq ≤ k) ∧ Aside0 (wc.heap[gb305]? = some (.cells #[.int .i64 a0_0, .int .i64 a0_1, (.slice A0_2 l0_2.length c0_2)] 33 (0, 0))) ∧ Aside0 (Below w.heap.size w wc))
 case first =>
  have H := HC3.out
  clear HC3
  obtain ⟨t306, A5, H⟩ := Xbi H
  (try dsimp only at H)
  by_cases c6 : t306 = true
  ·subst c6
   (first | rw [if_pos rfl] at H | skip)
   have H' := Aside0.mk H
   clear H
   obtain ⟨hcz7_0, hcz7_1, hcz7_2⟩ := Xc3 BK305
   obtain ⟨hfz7_0, hfz7_1, hfz7_2⟩ := Xf3 BK305
   go_wp2_with (first | ((with_reducible refine gate_callee (f := 44) rfl ?_); refine Xgo 8 Try.func44 #[.agg #[.int .i64 a0_0, .int .i64 a0_1, .slice A0_2 l0_2.length c0_2]] ?_; (with_reducible refine (impl_DocOK.calls k a0_0 a0_1 _ _ l0_2 true _ ?side1 ?side2 A5.out).mono ?_); (case side1 => exact Xc HR0_2); (case side2 => exact HC0_2.out); rintro e w8 ⟨rfl, hb⟩; refine ⟨_, rfl, ?_⟩; replace BK305 := Xbb BK305 hb; replace HB := Aside0.mk (below_step Xi hb); clear hb))
   go_meet
   case rel => exact ⟨_, (decide ((l1.length : Int) > 30)), Xr, H', Xko, BK305, ⟨Xi⟩⟩
  ·replace c6 := Bool.eq_false_iff.mpr c6
   subst c6
   (first | rw [if_neg (show ¬ (false = true) by decide)] at H | skip)
   have H' := Aside0.mk H
   clear H
   obtain ⟨hcz9_0, hcz9_1, hcz9_2⟩ := Xc3 BK305
   obtain ⟨hfz9_0, hfz9_1, hfz9_2⟩ := Xf3 BK305
   go_wp2_with (first | ((with_reducible refine gate_callee (f := 44) rfl ?_); refine Xgo 8 Try.func44 #[.agg #[.int .i64 a0_0, .int .i64 a0_1, .slice A0_2 l0_2.length c0_2]] ?_; (with_reducible refine (impl_DocOK.calls k a0_0 a0_1 _ _ l0_2 false _ ?side1 ?side2 A5.out).mono ?_); (case side1 => exact Xc HR0_2); (case side2 => exact HC0_2.out); rintro e w10 ⟨rfl, hb⟩; refine ⟨_, rfl, ?_⟩; replace BK305 := Xbb BK305 hb; replace HB := Aside0.mk (below_step Xi hb); clear hb))
   go_meet
   case rel => exact ⟨_, (true), Xr, H', Xko, BK305, ⟨Xi⟩⟩
 case rest =>
  clear HC3
  (try clear c1)
  obtain ⟨kq, x14_2, rfl, HA, HJ2, BK305, HB⟩ := hcut
  cases kq with
  | zero => cases HA.out
  | succ kj2 =>
   have H := HA.out
   clear HA
   simp only [impl_HoldsOK.j0] at H
   by_cases c11 : x14_2 = true
   ·subst c11
    (first | rw [if_pos rfl] at H | skip)
    obtain rfl := Option.some.inj H
    go_wp2
    go_ret
    exact ⟨Xe, Xi⟩
   ·replace c11 := Bool.eq_false_iff.mpr c11
    subst c11
    (first | rw [if_neg (show ¬ (false = true) by decide)] at H | skip)
    have H' := Aside0.mk H
    clear H
    go_wp2
    go_loopg [17] kj2 (fun kq v17 w' => ∃ (x17_2 : Int), v17 = .int .i64 x17_2 ∧ Aside0 (impl_HoldsOK.l0 kq l1 l1 (l1.length : Int) x17_2 a0_0 a0_1 l0_2 = some r) ∧ Aside0 (kq ≤ kj2) ∧ Aside0 (w'.heap[gb305]? = some (.cells #[.int .i64 a0_0, .int .i64 a0_1, (.slice A0_2 l0_2.length c0_2)] 33 (0, 0))) ∧ Aside0 (Below w.heap.size w w'))
    case atStart => exact ⟨(0), Xr, H', Xkr, BK305, ⟨Xi⟩⟩
    case round =>
     clear H'
     (try clear c1); (try clear c11)
     obtain ⟨x17_2, rfl, HA, HK2, BK305, HB⟩ := hrel
     cases gk with
     | zero => cases HA.out
     | succ k2 =>
      have H := HA.out
      clear HA
      simp only [impl_HoldsOK.l0] at H
      obtain ⟨c12b0, H⟩ | ⟨c12b0, H⟩ := Xit H
      ·obtain ⟨c13b0, H⟩ := Xid H
       obtain ⟨c14b0, H⟩ := Xid H
       obtain ⟨t309, A15, H⟩ := Xbi H
       (try dsimp only at H)
       by_cases c16 : t309 = true
       ·subst c16
        (first | rw [if_pos rfl] at H | skip)
        obtain ⟨c17, H⟩ | ⟨c17, H⟩ := Xiu H
        ·have c17b0 : decide (0 < x17_2) = true := decide_eq_true c17
         clear c17
         obtain ⟨ji18, hji18⟩ : ∃ j_ : Int, (wrap64 (x17_2 - 1)) = j_ := ⟨_, rfl⟩
         replace H : (if 0 ≤ (ji18) then (if (ji18) < (l1.length : Int) then ((impl_compareHolds.f k2 ((rd_T44 l1 (ji18)).f0) ((rd_T44 l1 (ji18)).f1) ((rd_T44 l1 (ji18)).f2) ((rd_T44 l1 x17_2).f0) ((rd_T44 l1 x17_2).f1) ((rd_T44 l1 x17_2).f2)).bind fun t311 => (if t311 ≥ 0 then (some false) else (impl_HoldsOK.l0 k2 l1 l1 (l1.length : Int) (wrap64 (x17_2 + 1)) a0_0 a0_1 l0_2))) else (none)) else (none)) = some r := by first | (rw [hji18] at H; exact H) | (simp only [hji18] at H ⊢; exact H)
         (try rw [hji18] at A15)
         have hji18w : (IntKind.i64.wrap (x17_2 - 1)) = ji18 := (i64_w _).trans hji18
         obtain ⟨c19b0, H⟩ := Xid H
         obtain ⟨c20b0, H⟩ := Xid H
         obtain ⟨t311, A21, H⟩ := Xbi H
         (try dsimp only at H)
         have HC22 := Aside0.mk H
         clear H
         obtain ⟨ad307, e307, p307, q307, hx307_0, hx307_1, hx307_2⟩ := at_B44 HR1 x17_2 Xa Xa HB
         cases e307
         try go_wp2_with (first | ((with_reducible refine gate_dst (N := 6) rfl ?_); (try (refine gate_guard (by rfl) ?_; dsimp only)); refine Xbox 6 #[.int .i64 0, .int .i64 0, .int .i64 0] 44 ?_; intro gb308 hg w23 hbox hb; have BK308 := Aside0.mk (hbox); have GE308 := Xge hg Xi; have GW308 := GE308; replace HB := Aside0.mk (below_step Xi hb); have NB305_308 := Xnb hg BK305; have NB308_305 := Xns NB305_308; replace BK305 := Xbb BK305 hb; clear hb hbox hg; have hnb24 := NB308_305.out; have hnc24 := NB305_308.out; obtain ⟨hcz25_0, hcz25_1, hcz25_2⟩ := Xc3 BK308; obtain ⟨hfz25_0, hfz25_1, hfz25_2⟩ := Xf3 BK308) | ((with_reducible refine gate_store (t := 44) (p := 6) rfl ?_); refine store_event (t := 44) (p := 6) (v := ?vo_w26) (w1 := (((w23.setCell ⟨gb308, 0, none⟩ (.int .i64 ((rd_T44 l1 x17_2).f0))).setCell ⟨gb308, 1, none⟩ (.int .i64 ((rd_T44 l1 x17_2).f1))).setCell ⟨gb308, 2, none⟩ (.int .i64 ((rd_T44 l1 x17_2).f2)))) ?hg ?ho ?hn ?hr ?_; (case ho => rfl); (case hg => rfl); (case hn => rfl); (case hr => first | (go_simp; done) | (go_simp; rfl)); intro w26 hw; have n0_ : Aside0 (w26.heap[gb305]? = some (.cells #[.int .i64 a0_0, .int .i64 a0_1, .slice A0_2 l0_2.length c0_2] 33 (0, 0))) := ⟨(by rw [hw]; exact (by (with_reducible repeat (first | refine blk_drewN ?_ _ | refine blk_drew ?_ | refine blk_alloc ?_ _)); refine blk_far ?_ NB305_308.out _; (with_reducible repeat (first | refine blk_drewN ?_ _ | refine blk_drew ?_ | refine blk_alloc ?_ _)); refine blk_far ?_ NB305_308.out _; (with_reducible repeat (first | refine blk_drewN ?_ _ | refine blk_drew ?_ | refine blk_alloc ?_ _)); refine blk_far ?_ NB305_308.out _; (with_reducible repeat (first | refine blk_drewN ?_ _ | refine blk_drew ?_ | refine blk_alloc ?_ _)); exact BK305.out))⟩; have n1_ : Aside0 (w26.heap[gb308]? = some (.cells #[.int .i64 ((rd_T44 l1 x17_2).f0), .int .i64 ((rd_T44 l1 x17_2).f1), .int .i64 ((rd_T44 l1 x17_2).f2)] 44 (0, 0))) := ⟨(by rw [hw]; exact (by (with_reducible repeat (first | refine blk_drewN ?_ _ | refine blk_drew ?_ | refine blk_alloc ?_ _)); refine blk_put (cs := #[.int .i64 ((rd_T44 l1 x17_2).f0), .int .i64 ((rd_T44 l1 x17_2).f1), .int .i64 0]) ?_ 2 _ rfl; (with_reducible repeat (first | refine blk_drewN ?_ _ | refine blk_drew ?_ | refine blk_alloc ?_ _)); refine blk_put (cs := #[.int .i64 ((rd_T44 l1 x17_2).f0), .int .i64 0, .int .i64 0]) ?_ 1 _ rfl; (with_reducible repeat (first | refine blk_drewN ?_ _ | refine blk_drew ?_ | refine blk_alloc ?_ _)); refine blk_put (cs := #[.int .i64 0, .int .i64 0, .int .i64 0]) ?_ 0 _ rfl; (with_reducible repeat (first | refine blk_drewN ?_ _ | refine blk_drew ?_ | refine blk_alloc ?_ _)); exact BK308.out))⟩; have n2_ : Aside0 (Below w.heap.size w w26) := ⟨(by rw [hw]; exact Xi)⟩; clear hw; clear BK305; clear BK308; clear HB; have BK305 := n0_; have BK308 := n1_; have HB := n2_; clear n0_ n1_ n2_))
         replace BK305 := Aside0.mk (blk_drew BK305.out)
         replace BK308 := Aside0.mk (blk_drew BK308.out)
         replace HB := Aside0.mk (below_drew1 HB.out)
         have p310 : 0 ≤ ((ji18) : Int) := of_decide_eq_true Xa
         have q310 : (ji18) < (l1.length : Int) := of_decide_eq_true Xa
         obtain ⟨ad310, e310, hx310_0, hx310_1, hx310_2⟩ := at_T44 HR1.out (ji18) p310 q310
         have hw310_2 := hx310_2
         have hw310_1 := hx310_1
         have hw310_0 := hx310_0
         obtain rfl : ad307 = ad310 := (by injection e310)
         replace hx310_0 := Xm HB hx310_0
         replace hx310_1 := Xm HB hx310_1
         replace hx310_2 := Xm HB hx310_2
         replace p310 := eq_true p310
         replace q310 := eq_true q310
         refine start_ (n := 17) (S := fun w' => w'.cell? ⟨gb308, 0, none⟩ = some (.int .i64 ((rd_T44 l1 x17_2).f0)) ∧ w'.cell? ⟨gb308, 1, none⟩ = some (.int .i64 ((rd_T44 l1 x17_2).f1)) ∧ w'.cell? ⟨gb308, 2, none⟩ = some (.int .i64 ((rd_T44 l1 x17_2).f2)) ∧ w'.cell? (ad307.add (((ji18)).toNat * 3)) = some (.int .i64 ((rd_T44 l1 (ji18)).f0)) ∧ w'.cell? ⟨(ad307.add (((ji18)).toNat * 3)).block, (ad307.add (((ji18)).toNat * 3)).off + 1, none⟩ = some (.int .i64 ((rd_T44 l1 (ji18)).f1)) ∧ w'.cell? ⟨(ad307.add (((ji18)).toNat * 3)).block, (ad307.add (((ji18)).toNat * 3)).off + 2, none⟩ = some (.int .i64 ((rd_T44 l1 (ji18)).f2))) (ds := []) #[false, false, false, false, false, false, false, false, false, false, false, false, false, false, false, false, false] (by kernel_rfl) rfl rfl ⟨(blk_cell BK308.out 0).trans rfl, (blk_cell BK308.out 1).trans rfl, (blk_cell BK308.out 2).trans rfl, Xn hw310_0, Xn hw310_1, Xn hw310_2⟩ (fun hHeld => ?_); refine with_tabW impl_HoldsOK.tab6 impl_HoldsOK.bits6 (fun HT_ HW_ => ?_)
         generalize w26.drew = w27 at BK305 BK308 HB hx310_0 hx310_1 hx310_2 hHeld ⊢
         refine Xta 0 22 (XW.bs 17 1) HT_.out HW_.out hHeld ?_
         refine one_ (i := 1) (N := some 23) (XW.bs 17 3) rfl rfl (one_of HT_.out (by kernel_rfl)) (by decide) (fun K hK => ?_)
         refine goes_ Try.func201 (by kernel_rfl) rfl #[.pointer (some ⟨gb305, 0, none⟩), .agg #[.int .i64 ((rd_T44 l1 x17_2).f0), .int .i64 ((rd_T44 l1 x17_2).f1), .int .i64 ((rd_T44 l1 x17_2).f2)]] (by rfl) rfl rfl (by (try simp only [List.map_toArray, List.map_cons, List.map_nil]); first | done | rfl | (simp only [List.length_drop, List.length_take]; rfl)) ?_
         with_reducible refine (impl_Doc_isHold.calls k2 gb305 a0_0 a0_1 A0_2 c0_2 l0_2 ((rd_T44 l1 x17_2).f0) ((rd_T44 l1 x17_2).f1) ((rd_T44 l1 x17_2).f2) true _ ?side1 ?side2 ?side3 A15.out).mono ?_
         (case side1 => exact BK305.out)
         (case side2 => exact Xc HR0_2)
         (case side3 => exact HC0_2.out)
         rintro e w28 ⟨rfl, hb⟩
         refine ⟨_, rfl, ?_⟩
         replace BK305 := Xbb BK305 hb
         replace BK308 := Xbb BK308 hb
         replace HB := Aside0.mk (below_step Xi hb)
         (try clear hb)
         (try clear hb2)
         (try clear hk)
         (try clear hi)
         refine hK.out _ _ ⟨(blk_cell BK308.out 0).trans rfl, (blk_cell BK308.out 1).trans rfl, (blk_cell BK308.out 2).trans rfl, Xn hw310_0, Xn hw310_1, Xn hw310_2⟩ (fun hHeld => ?_)
         clear hK K
         refine Xno ?_
         refine Xpu 2 24 (XW.bs 17 7) HT_.out ?_
         refine Xpu 3 25 (XW.bs 17 15) HT_.out ?_
         refine Xpu 4 26 (XW.bs 17 31) HT_.out ?_
         refine Xpu 5 27 (XW.bs 17 63) HT_.out ?_
         refine Xpu 6 28 (XW.bs 17 127) HT_.out ?_
         refine Xpu 7 29 (XW.bs 17 255) HT_.out ?_
         refine Xpu 8 30 (XW.bs 17 511) HT_.out ?_
         refine Xpu 9 31 (XW.bs 17 1023) HT_.out ?_
         refine Xpu 10 32 (XW.bs 17 2047) HT_.out ?_
         refine Xta 11 33 (XW.bs 17 4095) HT_.out HW_.out hHeld ?_
         refine Xta 12 34 (XW.bs 17 8191) HT_.out HW_.out hHeld ?_
         refine one_ (i := 13) (N := some 35) (XW.bs 17 16383) rfl rfl (one_of HT_.out (by kernel_rfl)) (by decide) (fun K hK => ?_)
         refine goes_ Try.func151 (by kernel_rfl) rfl #[.agg #[.int .i64 ((rd_T44 l1 (ji18)).f0), .int .i64 ((rd_T44 l1 (ji18)).f1), .int .i64 ((rd_T44 l1 (ji18)).f2)], .agg #[.int .i64 ((rd_T44 l1 x17_2).f0), .int .i64 ((rd_T44 l1 x17_2).f1), .int .i64 ((rd_T44 l1 x17_2).f2)]] (by rfl) rfl rfl (by (try simp only [List.map_toArray, List.map_cons, List.map_nil]); first | done | (simp only [hji18]; rfl) | rfl | (simp only [List.length_drop, List.length_take]; rfl)) ?_
         with_reducible refine (impl_compareHolds.calls k2 ((rd_T44 l1 (ji18)).f0) ((rd_T44 l1 (ji18)).f1) ((rd_T44 l1 (ji18)).f2) ((rd_T44 l1 x17_2).f0) ((rd_T44 l1 x17_2).f1) ((rd_T44 l1 x17_2).f2) t311 _ A21.out).mono ?_
         rintro e w29 ⟨rfl, hb⟩
         refine ⟨_, rfl, ?_⟩
         replace BK305 := Xbb BK305 hb
         replace BK308 := Xbb BK308 hb
         replace HB := Aside0.mk (below_step Xi hb)
         (try clear hb)
         (try clear hb2)
         (try clear hk)
         (try clear hi)
         refine hK.out _ _ ⟨(blk_cell BK308.out 0).trans rfl, (blk_cell BK308.out 1).trans rfl, (blk_cell BK308.out 2).trans rfl, Xn hw310_0, Xn hw310_1, Xn hw310_2⟩ (fun hHeld => ?_)
         clear hK K
         refine Xno ?_
         refine Xpu 14 36 (XW.bs 17 32767) HT_.out ?_
         refine Xpu 15 37 (XW.bs 17 65535) HT_.out ?_
         refine Xpu 16 38 (XW.bs 17 131071) HT_.out ?_
         refine done_ (done_of HT_.out (by kernel_rfl)) ?_
         go_upto_if 38 with (fail)
         have H := HC22.out
         clear HC22
         obtain ⟨c30, H⟩ | ⟨c30, H⟩ := Xiu H
         ·have c30b0 : decide (0 ≤ t311) = true := decide_eq_true c30
          clear c30
          (first | rw [c30b0] | (simp only [i64_w, i32_w]; rw [c30b0]) | skip)
          obtain rfl := Option.some.inj H
          go_wp2
          go_ret
          exact ⟨by first | rfl | (simp [errW_none, errW_some] <;> rfl) | (simp only [← hji18]; first | rfl | (simp [errW_none, errW_some] <;> rfl)) | (simp [*, errW_none, errW_some] <;> rfl), Xi⟩
         ·have c30b0 : decide (0 ≤ t311) = false := decide_eq_false c30
          clear c30
          (first | rw [c30b0] | (simp only [i64_w, i32_w]; rw [c30b0]) | skip)
          have H' := Aside0.mk H
          clear H
          go_wp2
          go_roundg k2
          case measure => have := HJ2.out; have := HK2.out; omega
          case rel => exact ⟨(wrap64 (x17_2 + 1)), Xr, H', ⟨by have := HJ2.out; have := HK2.out; omega⟩, BK305, ⟨Xi⟩⟩
        ·have c17b0 : decide (0 < x17_2) = false := decide_eq_false c17
         clear c17
         have H' := Aside0.mk H
         clear H
         obtain ⟨ad307, e307, p307, q307, hx307_0, hx307_1, hx307_2⟩ := at_B44 HR1 x17_2 Xa Xa HB
         cases e307
         try go_wp2_with (first | ((with_reducible refine gate_dst (N := 6) rfl ?_); (try (refine gate_guard (by rfl) ?_; dsimp only)); refine Xbox 6 #[.int .i64 0, .int .i64 0, .int .i64 0] 44 ?_; intro gb308 hg w31 hbox hb; have BK308 := Aside0.mk (hbox); have GE308 := Xge hg Xi; have GW308 := GE308; replace HB := Aside0.mk (below_step Xi hb); have NB305_308 := Xnb hg BK305; have NB308_305 := Xns NB305_308; replace BK305 := Xbb BK305 hb; clear hb hbox hg; have hnb32 := NB308_305.out; have hnc32 := NB305_308.out; obtain ⟨hcz33_0, hcz33_1, hcz33_2⟩ := Xc3 BK308; obtain ⟨hfz33_0, hfz33_1, hfz33_2⟩ := Xf3 BK308) | ((with_reducible refine gate_store (t := 44) (p := 6) rfl ?_); refine store_event (t := 44) (p := 6) (v := ?vo_w34) (w1 := (((w31.setCell ⟨gb308, 0, none⟩ (.int .i64 ((rd_T44 l1 x17_2).f0))).setCell ⟨gb308, 1, none⟩ (.int .i64 ((rd_T44 l1 x17_2).f1))).setCell ⟨gb308, 2, none⟩ (.int .i64 ((rd_T44 l1 x17_2).f2)))) ?hg ?ho ?hn ?hr ?_; (case ho => rfl); (case hg => rfl); (case hn => rfl); (case hr => first | (go_simp; done) | (go_simp; rfl)); intro w34 hw; have n0_ : Aside0 (w34.heap[gb305]? = some (.cells #[.int .i64 a0_0, .int .i64 a0_1, .slice A0_2 l0_2.length c0_2] 33 (0, 0))) := ⟨(by rw [hw]; exact (by (with_reducible repeat (first | refine blk_drewN ?_ _ | refine blk_drew ?_ | refine blk_alloc ?_ _)); refine blk_far ?_ NB305_308.out _; (with_reducible repeat (first | refine blk_drewN ?_ _ | refine blk_drew ?_ | refine blk_alloc ?_ _)); refine blk_far ?_ NB305_308.out _; (with_reducible repeat (first | refine blk_drewN ?_ _ | refine blk_drew ?_ | refine blk_alloc ?_ _)); refine blk_far ?_ NB305_308.out _; (with_reducible repeat (first | refine blk_drewN ?_ _ | refine blk_drew ?_ | refine blk_alloc ?_ _)); exact BK305.out))⟩; have n1_ : Aside0 (w34.heap[gb308]? = some (.cells #[.int .i64 ((rd_T44 l1 x17_2).f0), .int .i64 ((rd_T44 l1 x17_2).f1), .int .i64 ((rd_T44 l1 x17_2).f2)] 44 (0, 0))) := ⟨(by rw [hw]; exact (by (with_reducible repeat (first | refine blk_drewN ?_ _ | refine blk_drew ?_ | refine blk_alloc ?_ _)); refine blk_put (cs := #[.int .i64 ((rd_T44 l1 x17_2).f0), .int .i64 ((rd_T44 l1 x17_2).f1), .int .i64 0]) ?_ 2 _ rfl; (with_reducible repeat (first | refine blk_drewN ?_ _ | refine blk_drew ?_ | refine blk_alloc ?_ _)); refine blk_put (cs := #[.int .i64 ((rd_T44 l1 x17_2).f0), .int .i64 0, .int .i64 0]) ?_ 1 _ rfl; (with_reducible repeat (first | refine blk_drewN ?_ _ | refine blk_drew ?_ | refine blk_alloc ?_ _)); refine blk_put (cs := #[.int .i64 0, .int .i64 0, .int .i64 0]) ?_ 0 _ rfl; (with_reducible repeat (first | refine blk_drewN ?_ _ | refine blk_drew ?_ | refine blk_alloc ?_ _)); exact BK308.out))⟩; have n2_ : Aside0 (Below w.heap.size w w34) := ⟨(by rw [hw]; exact Xi)⟩; clear hw; clear BK305; clear BK308; clear HB; have BK305 := n0_; have BK308 := n1_; have HB := n2_; clear n0_ n1_ n2_))
         replace BK305 := Aside0.mk (blk_drew BK305.out)
         replace BK308 := Aside0.mk (blk_drew BK308.out)
         replace HB := Aside0.mk (below_drew1 HB.out)
         refine start_ (n := 17) (S := fun w' => w'.cell? ⟨gb308, 0, none⟩ = some (.int .i64 ((rd_T44 l1 x17_2).f0)) ∧ w'.cell? ⟨gb308, 1, none⟩ = some (.int .i64 ((rd_T44 l1 x17_2).f1)) ∧ w'.cell? ⟨gb308, 2, none⟩ = some (.int .i64 ((rd_T44 l1 x17_2).f2))) (ds := []) #[false, false, false, false, false, false, false, false, false, false, false, false, false, false, false, false, false] (by kernel_rfl) rfl rfl ⟨(blk_cell BK308.out 0).trans rfl, (blk_cell BK308.out 1).trans rfl, (blk_cell BK308.out 2).trans rfl⟩ (fun hHeld => ?_); refine with_tabW impl_HoldsOK.tab6 impl_HoldsOK.bits6 (fun HT_ HW_ => ?_)
         generalize w34.drew = w35 at BK305 BK308 HB hHeld ⊢
         refine Xta 0 22 (XW.bs 17 1) HT_.out HW_.out hHeld ?_
         refine one_ (i := 1) (N := some 23) (XW.bs 17 3) rfl rfl (one_of HT_.out (by kernel_rfl)) (by decide) (fun K hK => ?_)
         refine goes_ Try.func201 (by kernel_rfl) rfl #[.pointer (some ⟨gb305, 0, none⟩), .agg #[.int .i64 ((rd_T44 l1 x17_2).f0), .int .i64 ((rd_T44 l1 x17_2).f1), .int .i64 ((rd_T44 l1 x17_2).f2)]] (by rfl) rfl rfl (by (try simp only [List.map_toArray, List.map_cons, List.map_nil]); first | done | rfl | (simp only [List.length_drop, List.length_take]; rfl)) ?_
         with_reducible refine (impl_Doc_isHold.calls k2 gb305 a0_0 a0_1 A0_2 c0_2 l0_2 ((rd_T44 l1 x17_2).f0) ((rd_T44 l1 x17_2).f1) ((rd_T44 l1 x17_2).f2) true _ ?side1 ?side2 ?side3 A15.out).mono ?_
         (case side1 => exact BK305.out)
         (case side2 => exact Xc HR0_2)
         (case side3 => exact HC0_2.out)
         rintro e w36 ⟨rfl, hb⟩
         refine ⟨_, rfl, ?_⟩
         replace BK305 := Xbb BK305 hb
         replace BK308 := Xbb BK308 hb
         replace HB := Aside0.mk (below_step Xi hb)
         (try clear hb)
         (try clear hb2)
         (try clear hk)
         (try clear hi)
         refine hK.out _ _ ⟨(blk_cell BK308.out 0).trans rfl, (blk_cell BK308.out 1).trans rfl, (blk_cell BK308.out 2).trans rfl⟩ (fun hHeld => ?_)
         clear hK K
         refine Xno ?_
         refine Xpu 2 24 (XW.bs 17 7) HT_.out ?_
         refine Xpu 3 25 (XW.bs 17 15) HT_.out ?_
         refine Xpu 4 26 (XW.bs 17 31) HT_.out ?_
         refine Xpu 5 27 (XW.bs 17 63) HT_.out ?_
         refine Xpu 6 28 (XW.bs 17 127) HT_.out ?_
         refine Xpn 7 29 (XW.bs 17 255) HT_.out ?_
         refine Xpn 8 30 (XW.bs 17 511) HT_.out ?_
         refine Xpn 9 31 (XW.bs 17 1023) HT_.out ?_
         refine Xpn 10 32 (XW.bs 17 2047) HT_.out ?_
         refine Xpn 11 33 (XW.bs 17 4095) HT_.out ?_
         refine Xpn 12 34 (XW.bs 17 8191) HT_.out ?_
         refine Xpn 13 35 (XW.bs 17 16383) HT_.out ?_
         refine Xpn 14 36 (XW.bs 17 32767) HT_.out ?_
         refine Xpu 15 37 (XW.bs 17 65535) HT_.out ?_
         refine Xpu 16 38 (XW.bs 17 131071) HT_.out ?_
         refine done_ (done_of HT_.out (by kernel_rfl)) ?_
         try go_wp2_with (fail)
         go_roundg k2
         case measure => have := HJ2.out; have := HK2.out; omega
         case rel => exact ⟨(wrap64 (x17_2 + 1)), Xr, H', ⟨by have := HJ2.out; have := HK2.out; omega⟩, BK305, ⟨Xi⟩⟩
       ·replace c16 := Bool.eq_false_iff.mpr c16
        subst c16
        (first | rw [if_neg (show ¬ (false = true) by decide)] at H | skip)
        obtain rfl := Option.some.inj H
        obtain ⟨ad307, e307, p307, q307, hx307_0, hx307_1, hx307_2⟩ := at_B44 HR1 x17_2 Xa Xa HB
        cases e307
        try go_wp2_with (first | ((with_reducible refine gate_dst (N := 6) rfl ?_); (try (refine gate_guard (by rfl) ?_; dsimp only)); refine Xbox 6 #[.int .i64 0, .int .i64 0, .int .i64 0] 44 ?_; intro gb308 hg w37 hbox hb; have BK308 := Aside0.mk (hbox); have GE308 := Xge hg Xi; have GW308 := GE308; replace HB := Aside0.mk (below_step Xi hb); have NB305_308 := Xnb hg BK305; have NB308_305 := Xns NB305_308; replace BK305 := Xbb BK305 hb; clear hb hbox hg; have hnb38 := NB308_305.out; have hnc38 := NB305_308.out; obtain ⟨hcz39_0, hcz39_1, hcz39_2⟩ := Xc3 BK308; obtain ⟨hfz39_0, hfz39_1, hfz39_2⟩ := Xf3 BK308) | ((with_reducible refine gate_store (t := 44) (p := 6) rfl ?_); refine store_event (t := 44) (p := 6) (v := ?vo_w40) (w1 := (((w37.setCell ⟨gb308, 0, none⟩ (.int .i64 ((rd_T44 l1 x17_2).f0))).setCell ⟨gb308, 1, none⟩ (.int .i64 ((rd_T44 l1 x17_2).f1))).setCell ⟨gb308, 2, none⟩ (.int .i64 ((rd_T44 l1 x17_2).f2)))) ?hg ?ho ?hn ?hr ?_; (case ho => rfl); (case hg => rfl); (case hn => rfl); (case hr => first | (go_simp; done) | (go_simp; rfl)); intro w40 hw; have n0_ : Aside0 (w40.heap[gb305]? = some (.cells #[.int .i64 a0_0, .int .i64 a0_1, .slice A0_2 l0_2.length c0_2] 33 (0, 0))) := ⟨(by rw [hw]; exact (by (with_reducible repeat (first | refine blk_drewN ?_ _ | refine blk_drew ?_ | refine blk_alloc ?_ _)); refine blk_far ?_ NB305_308.out _; (with_reducible repeat (first | refine blk_drewN ?_ _ | refine blk_drew ?_ | refine blk_alloc ?_ _)); refine blk_far ?_ NB305_308.out _; (with_reducible repeat (first | refine blk_drewN ?_ _ | refine blk_drew ?_ | refine blk_alloc ?_ _)); refine blk_far ?_ NB305_308.out _; (with_reducible repeat (first | refine blk_drewN ?_ _ | refine blk_drew ?_ | refine blk_alloc ?_ _)); exact BK305.out))⟩; have n1_ : Aside0 (w40.heap[gb308]? = some (.cells #[.int .i64 ((rd_T44 l1 x17_2).f0), .int .i64 ((rd_T44 l1 x17_2).f1), .int .i64 ((rd_T44 l1 x17_2).f2)] 44 (0, 0))) := ⟨(by rw [hw]; exact (by (with_reducible repeat (first | refine blk_drewN ?_ _ | refine blk_drew ?_ | refine blk_alloc ?_ _)); refine blk_put (cs := #[.int .i64 ((rd_T44 l1 x17_2).f0), .int .i64 ((rd_T44 l1 x17_2).f1), .int .i64 0]) ?_ 2 _ rfl; (with_reducible repeat (first | refine blk_drewN ?_ _ | refine blk_drew ?_ | refine blk_alloc ?_ _)); refine blk_put (cs := #[.int .i64 ((rd_T44 l1 x17_2).f0), .int .i64 0, .int .i64 0]) ?_ 1 _ rfl; (with_reducible repeat (first | refine blk_drewN ?_ _ | refine blk_drew ?_ | refine blk_alloc ?_ _)); refine blk_put (cs := #[.int .i64 0, .int .i64 0, .int .i64 0]) ?_ 0 _ rfl; (with_reducible repeat (first | refine blk_drewN ?_ _ | refine blk_drew ?_ | refine blk_alloc ?_ _)); exact BK308.out))⟩; have n2_ : Aside0 (Below w.heap.size w w40) := ⟨(by rw [hw]; exact Xi)⟩; clear hw; clear BK305; clear BK308; clear HB; have BK305 := n0_; have BK308 := n1_; have HB := n2_; clear n0_ n1_ n2_))
        replace BK305 := Aside0.mk (blk_drew BK305.out)
        replace BK308 := Aside0.mk (blk_drew BK308.out)
        replace HB := Aside0.mk (below_drew1 HB.out)
        refine start_ (n := 17) (S := fun w' => w'.cell? ⟨gb308, 0, none⟩ = some (.int .i64 ((rd_T44 l1 x17_2).f0)) ∧ w'.cell? ⟨gb308, 1, none⟩ = some (.int .i64 ((rd_T44 l1 x17_2).f1)) ∧ w'.cell? ⟨gb308, 2, none⟩ = some (.int .i64 ((rd_T44 l1 x17_2).f2))) (ds := []) #[false, false, false, false, false, false, false, false, false, false, false, false, false, false, false, false, false] (by kernel_rfl) rfl rfl ⟨(blk_cell BK308.out 0).trans rfl, (blk_cell BK308.out 1).trans rfl, (blk_cell BK308.out 2).trans rfl⟩ (fun hHeld => ?_); refine with_tabW impl_HoldsOK.tab6 impl_HoldsOK.bits6 (fun HT_ HW_ => ?_)
        generalize w40.drew = w41 at BK305 BK308 HB hHeld ⊢
        refine Xta 0 22 (XW.bs 17 1) HT_.out HW_.out hHeld ?_
        refine one_ (i := 1) (N := some 23) (XW.bs 17 3) rfl rfl (one_of HT_.out (by kernel_rfl)) (by decide) (fun K hK => ?_)
        refine goes_ Try.func201 (by kernel_rfl) rfl #[.pointer (some ⟨gb305, 0, none⟩), .agg #[.int .i64 ((rd_T44 l1 x17_2).f0), .int .i64 ((rd_T44 l1 x17_2).f1), .int .i64 ((rd_T44 l1 x17_2).f2)]] (by rfl) rfl rfl (by (try simp only [List.map_toArray, List.map_cons, List.map_nil]); first | done | rfl | (simp only [List.length_drop, List.length_take]; rfl)) ?_
        with_reducible refine (impl_Doc_isHold.calls k2 gb305 a0_0 a0_1 A0_2 c0_2 l0_2 ((rd_T44 l1 x17_2).f0) ((rd_T44 l1 x17_2).f1) ((rd_T44 l1 x17_2).f2) false _ ?side1 ?side2 ?side3 A15.out).mono ?_
        (case side1 => exact BK305.out)
        (case side2 => exact Xc HR0_2)
        (case side3 => exact HC0_2.out)
        rintro e w42 ⟨rfl, hb⟩
        refine ⟨_, rfl, ?_⟩
        replace BK305 := Xbb BK305 hb
        replace BK308 := Xbb BK308 hb
        replace HB := Aside0.mk (below_step Xi hb)
        (try clear hb)
        (try clear hb2)
        (try clear hk)
        (try clear hi)
        refine hK.out _ _ ⟨(blk_cell BK308.out 0).trans rfl, (blk_cell BK308.out 1).trans rfl, (blk_cell BK308.out 2).trans rfl⟩ (fun hHeld => ?_)
        clear hK K
        refine Xno ?_
        refine Xpu 2 24 (XW.bs 17 7) HT_.out ?_
        refine Xpu 3 25 (XW.bs 17 15) HT_.out ?_
        refine Xpn 4 26 (XW.bs 17 31) HT_.out ?_
        refine Xpn 5 27 (XW.bs 17 63) HT_.out ?_
        refine Xpn 6 28 (XW.bs 17 127) HT_.out ?_
        refine Xpn 7 29 (XW.bs 17 255) HT_.out ?_
        refine Xpn 8 30 (XW.bs 17 511) HT_.out ?_
        refine Xpn 9 31 (XW.bs 17 1023) HT_.out ?_
        refine Xpn 10 32 (XW.bs 17 2047) HT_.out ?_
        refine Xpn 11 33 (XW.bs 17 4095) HT_.out ?_
        refine Xpn 12 34 (XW.bs 17 8191) HT_.out ?_
        refine Xpn 13 35 (XW.bs 17 16383) HT_.out ?_
        refine Xpn 14 36 (XW.bs 17 32767) HT_.out ?_
        refine Xpn 15 37 (XW.bs 17 65535) HT_.out ?_
        refine Xpu 16 38 (XW.bs 17 131071) HT_.out ?_
        refine done_ (done_of HT_.out (by kernel_rfl)) ?_
        try go_wp2_with (fail)
        go_ret
        exact ⟨Xe, Xi⟩
      ·obtain rfl := Option.some.inj H
       go_wp2
       go_ret
       exact ⟨Xe, Xi⟩

end Go.Proofs.Ytahhgjkgfbppeaa.XA
