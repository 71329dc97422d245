/- Contracts of the program's functions: each Go function that is named below comes to what its Lean function says. Written by xprint.py (a program of this session's, over the kit's print). Conditions: each contract's own premises. -/
import Derived.Test.YtocelbmpnjnnbaaYPutHold0
import Derived.Test.YtocelbmpnjnnbaaYPutHold11
import Derived.Test.YtocelbmpnjnnbaaYPutHold12
namespace Go.Proofs.Ytocelbmpnjnnbaa.XA
open Go.RowKit Go.Proofs.YtocelbmpnjnnbaaW.PrintWords Go.Proofs.YtocelbmpnjnnbaaW.PrintLast Go.Proofs.YtocelbmpnjnnbaaW.PrintMore XW
attribute [local go_sem] max2_int min2_int max_two min_two max_three min_three max_four min_four   -- for this text's walks alone
set_option linter.unusedVariables false
set_option linter.unusedSimpArgs false

/-! ### impl_HoldsOK: function 172 -/
mutual
def impl_HoldsOK.j0 : Nat → List (S38) → Bool → Int → Int → List (S64) → Option (Bool)
 | 0, _, _, _, _, _ => none
 | k + 1, x1, x14, x332000, x332001, x332002 => if x14 = true then (some false) else (impl_HoldsOK.l0 k x1 x1 (x1.length : Int) 0 x332000 x332001 x332002)
def impl_HoldsOK.l0 : Nat → List (S38) → List (S38) → Int → Int → Int → Int → List (S64) → Option (Bool)
 | 0, _, _, _, _, _, _, _ => none
 | k + 1, x1, x15, x16, x17, x332000, x332001, x332002 => if x17 < x16 then (if 0 ≤ x17 then (if x17 < (x15.length : Int) then ((impl_Doc_isHold.f k x332000 x332001 x332002 ((rd_T38 x15 x17).f0) ((rd_T38 x15 x17).f1) ((rd_T38 x15 x17).f2)).bind fun t335 => (if t335 = true then (if x17 > 0 then (if 0 ≤ (wrap64 (x17 - 1)) then (if (wrap64 (x17 - 1)) < (x1.length : Int) then ((impl_compareHolds.f k ((rd_T38 x1 (wrap64 (x17 - 1))).f0) ((rd_T38 x1 (wrap64 (x17 - 1))).f1) ((rd_T38 x1 (wrap64 (x17 - 1))).f2) ((rd_T38 x15 x17).f0) ((rd_T38 x15 x17).f1) ((rd_T38 x15 x17).f2)).bind fun t337 => (if t337 ≥ 0 then (some false) else (impl_HoldsOK.l0 k x1 x15 x16 (wrap64 (x17 + 1)) x332000 x332001 x332002))) else (none)) else (none)) else (impl_HoldsOK.l0 k x1 x15 x16 (wrap64 (x17 + 1)) x332000 x332001 x332002)) else (some false))) else (none)) else (none)) else (some true)
end
def impl_HoldsOK.f (k : Nat) (a0_0 : Int) (a0_1 : Int) (l0_2 : List (S64)) (l1 : List (S38)) : Option (Bool) := (impl_DocOK.f k a0_0 a0_1 l0_2).bind fun t332 => (if t332 = true then (impl_HoldsOK.j0 k l1 (decide ((l1.length : Int) > 30)) a0_0 a0_1 l0_2) else (impl_HoldsOK.j0 k l1 true a0_0 a0_1 l0_2))
def impl_HoldsOK.T6 : Bool × List (List Nat × List Nat) := (true, [([], []), ([0], [0]), ([1], [1]), ([2, 1], [2]), ([3], [3]), ([4, 3], [3, 4]), ([5, 3, 3], [3, 5]), ([6], [6]), ([6], [6]), ([8, 6], [6, 8]), ([7, 9, 6], [6, 7, 9]), ([10, 6], [6, 10]), ([6], [6]), ([11, 12, 6, 6], [6, 11, 12]), ([13, 6], [6, 13]), ([6, 14, 3], [3, 6, 14]), ([3, 15], [3, 15])])
def impl_HoldsOK.B6 : List Nat := [0, 1, 3, 7, 15, 31, 63, 127, 127, 383, 1023, 2047, 127, 8191, 16383, 32767, 65535]
theorem impl_HoldsOK.tab6 : rtab .any (opsOf Try.f172 6) = impl_HoldsOK.T6 := by kernel_rfl
theorem impl_HoldsOK.bits6 : waitsOk impl_HoldsOK.T6.2 impl_HoldsOK.B6 = true := by kernel_rfl
set_option maxHeartbeats 8000000 in
set_option maxRecDepth 100000 in
theorem impl_HoldsOK.calls (k : Nat) (a0_0 : Int) (a0_1 : Int) (A0_2 : Option Addr) (c0_2 : Nat) (l0_2 : List (S64)) (A1 : Option Addr) (c1 : Nat) (l1 : List (S38)) (r : Bool) (w : World) (hr0_2 : Kd.C k64 w A0_2 l0_2.length l0_2) (hc0_2 : l0_2.length ≤ c0_2) (hr1 : Kd.C k38 w A1 l1.length l1) (hc1 : l1.length ≤ c1) (h : impl_HoldsOK.f k a0_0 a0_1 l0_2 l1 = some r) :
  Calls Try.prog 172 #[.agg #[.int .i64 a0_0, .int .i64 a0_1, .slice A0_2 l0_2.length c0_2], .slice A1 l1.length c1] w fun e w' => e = .returned (.bool r) ∧ Below w.heap.size w w' := by
 have hu35 := Try.underlying35
 have hu38 := Try.underlying38
 have HR0_2 := Aside0.mk hr0_2
 have HC0_2 := Aside0.mk hc0_2
 clear hr0_2 hc0_2
 have HR1 := Aside0.mk hr1
 have HC1 := Aside0.mk hc1
 clear hr1 hc1
 have HB := Aside0.mk (Below.refl w.heap.size w)
 have H : ((impl_DocOK.f k a0_0 a0_1 l0_2).bind fun t332 => (if t332 = true then (impl_HoldsOK.j0 k l1 (decide ((l1.length : Int) > 30)) a0_0 a0_1 l0_2) else (impl_HoldsOK.j0 k l1 true a0_0 a0_1 l0_2))) = some r := h
 clear h
 have HC3 := Aside0.mk H
 clear H
 go_enter Try.func172, Try.ntmps172
 go_upto_region 1 with (first | ((with_reducible refine gate_dst (N := 2) rfl ?_); (try (refine gate_guard (by rfl) ?_; dsimp only)); refine Xbox 2 #[.int .i64 a0_0, .int .i64 a0_1, .slice A0_2 l0_2.length c0_2] 35 ?_; intro gb331 hg w4 hbox hb; have BK331 := Aside0.mk (hbox); have GE331 := Xge hg Xi; replace HB := Aside0.mk (below_step Xi hb); clear hb hbox hg))
 (try simp only [XW.q0, XW.q1, XW.q2])
 go_cut [14] (fun v14 wc => ∃ (kq : Nat) (x14_2 : Bool), v14 = .bool x14_2 ∧ Aside0 (impl_HoldsOK.j0 kq l1 x14_2 a0_0 a0_1 l0_2 = some r) ∧ Aside0 (kq ≤ k) ∧ Aside0 (wc.heap[gb331]? = some (.cells #[.int .i64 a0_0, .int .i64 a0_1, (.slice A0_2 l0_2.length c0_2)] 35 (0, 0))) ∧ Aside0 (Below w.heap.size w wc))
 case first =>
  have H := HC3.out
  clear HC3
  obtain ⟨t332, A5, H⟩ := Xbi H
  (try dsimp only at H)
  by_cases c6 : t332 = true
  ·subst c6
   (first | rw [if_pos rfl] at H | skip)
   have H' := Aside0.mk H
   clear H
   obtain ⟨hcz7_0, hcz7_1, hcz7_2⟩ := Xc3 BK331
   obtain ⟨hfz7_0, hfz7_1, hfz7_2⟩ := Xf3 BK331
   go_wp2_with (first | ((with_reducible refine gate_callee (f := 31) rfl ?_); refine Xgo 8 Try.func31 #[.agg #[.int .i64 a0_0, .int .i64 a0_1, .slice A0_2 l0_2.length c0_2]] ?_; (with_reducible refine (impl_DocOK.calls k a0_0 a0_1 _ _ l0_2 true _ ?side1 ?side2 A5.out).mono ?_); (case side1 => exact Xc HR0_2); (case side2 => exact HC0_2.out); rintro e w8 ⟨rfl, hb⟩; refine ⟨_, rfl, ?_⟩; replace BK331 := Xbb BK331 hb; replace HB := Aside0.mk (below_step Xi hb); clear hb))
   go_meet
   case rel => exact ⟨_, (decide ((l1.length : Int) > 30)), Xr, H', Xko, BK331, ⟨Xi⟩⟩
  ·replace c6 := Bool.eq_false_iff.mpr c6
   subst c6
   (first | rw [if_neg (show ¬ (false = true) by decide)] at H | skip)
   have H' := Aside0.mk H
   clear H
   obtain ⟨hcz9_0, hcz9_1, hcz9_2⟩ := Xc3 BK331
   obtain ⟨hfz9_0, hfz9_1, hfz9_2⟩ := Xf3 BK331
   go_wp2_with (first | ((with_reducible refine gate_callee (f := 31) rfl ?_); refine Xgo 8 Try.func31 #[.agg #[.int .i64 a0_0, .int .i64 a0_1, .slice A0_2 l0_2.length c0_2]] ?_; (with_reducible refine (impl_DocOK.calls k a0_0 a0_1 _ _ l0_2 false _ ?side1 ?side2 A5.out).mono ?_); (case side1 => exact Xc HR0_2); (case side2 => exact HC0_2.out); rintro e w10 ⟨rfl, hb⟩; refine ⟨_, rfl, ?_⟩; replace BK331 := Xbb BK331 hb; replace HB := Aside0.mk (below_step Xi hb); clear hb))
   go_meet
   case rel => exact ⟨_, (true), Xr, H', Xko, BK331, ⟨Xi⟩⟩
 case rest =>
  clear HC3
  (try clear c1)
  obtain ⟨kq, x14_2, rfl, HA, HJ2, BK331, HB⟩ := hcut
  cases kq with
  | zero => cases HA.out
  | succ kj2 =>
   have H := HA.out
   clear HA
   simp only [impl_HoldsOK.j0] at H
   by_cases c11 : x14_2 = true
   ·subst c11
    (first | rw [if_pos rfl] at H | skip)
    obtain rfl := Option.some.inj H
    go_wp2
    go_ret
    exact ⟨Xe, Xi⟩
   ·replace c11 := Bool.eq_false_iff.mpr c11
    subst c11
    (first | rw [if_neg (show ¬ (false = true) by decide)] at H | skip)
    have H' := Aside0.mk H
    clear H
    go_wp2
    go_loopg [17] kj2 (fun kq v17 w' => ∃ (x17_2 : Int), v17 = .int .i64 x17_2 ∧ Aside0 (impl_HoldsOK.l0 kq l1 l1 (l1.length : Int) x17_2 a0_0 a0_1 l0_2 = some r) ∧ Aside0 (kq ≤ kj2) ∧ Aside0 (w'.heap[gb331]? = some (.cells #[.int .i64 a0_0, .int .i64 a0_1, (.slice A0_2 l0_2.length c0_2)] 35 (0, 0))) ∧ Aside0 (Below w.heap.size w w'))
    case atStart => exact ⟨(0), Xr, H', Xkr, BK331, ⟨Xi⟩⟩
    case round =>
     clear H'
     (try clear c1); (try clear c11)
     obtain ⟨x17_2, rfl, HA, HK2, BK331, HB⟩ := hrel
     cases gk with
     | zero => cases HA.out
     | succ k2 =>
      have H := HA.out
      clear HA
      simp only [impl_HoldsOK.l0] at H
      obtain ⟨c12b0, H⟩ | ⟨c12b0, H⟩ := Xit H
      ·obtain ⟨c13b0, H⟩ := Xid H
       obtain ⟨c14b0, H⟩ := Xid H
       obtain ⟨t335, A15, H⟩ := Xbi H
       (try dsimp only at H)
       by_cases c16 : t335 = true
       ·subst c16
        (first | rw [if_pos rfl] at H | skip)
        obtain ⟨c17, H⟩ | ⟨c17, H⟩ := Xiu H
        ·have c17b0 : decide (0 < x17_2) = true := decide_eq_true c17
         clear c17
         obtain ⟨ji18, hji18⟩ : ∃ j_ : Int, (wrap64 (x17_2 - 1)) = j_ := ⟨_, rfl⟩
         replace H : (if 0 ≤ (ji18) then (if (ji18) < (l1.length : Int) then ((impl_compareHolds.f k2 ((rd_T38 l1 (ji18)).f0) ((rd_T38 l1 (ji18)).f1) ((rd_T38 l1 (ji18)).f2) ((rd_T38 l1 x17_2).f0) ((rd_T38 l1 x17_2).f1) ((rd_T38 l1 x17_2).f2)).bind fun t337 => (if t337 ≥ 0 then (some false) else (impl_HoldsOK.l0 k2 l1 l1 (l1.length : Int) (wrap64 (x17_2 + 1)) a0_0 a0_1 l0_2))) else (none)) else (none)) = some r := by first | (rw [hji18] at H; exact H) | (simp only [hji18] at H ⊢; exact H)
         (try rw [hji18] at A15)
         have hji18w : (IntKind.i64.wrap (x17_2 - 1)) = ji18 := (i64_w _).trans hji18
         obtain ⟨c19b0, H⟩ := Xid H
         obtain ⟨c20b0, H⟩ := Xid H
         obtain ⟨t337, A21, H⟩ := Xbi H
         (try dsimp only at H)
         have HC22 := Aside0.mk H
         clear H
         obtain ⟨ad333, e333, p333, q333, hx333_0, hx333_1, hx333_2⟩ := at_B38 HR1 x17_2 Xa Xa HB
         cases e333
         try go_wp2_with (first | ((with_reducible refine gate_dst (N := 6) rfl ?_); (try (refine gate_guard (by rfl) ?_; dsimp only)); refine Xbox 6 #[.int .i64 0, .int .i64 0, .int .i64 0] 38 ?_; intro gb334 hg w23 hbox hb; have BK334 := Aside0.mk (hbox); have GE334 := Xge hg Xi; have GW334 := GE334; replace HB := Aside0.mk (below_step Xi hb); have NB331_334 := Xnb hg BK331; have NB334_331 := Xns NB331_334; replace BK331 := Xbb BK331 hb; clear hb hbox hg; have hnb24 := NB334_331.out; have hnc24 := NB331_334.out; obtain ⟨hcz25_0, hcz25_1, hcz25_2⟩ := Xc3 BK334; obtain ⟨hfz25_0, hfz25_1, hfz25_2⟩ := Xf3 BK334) | ((with_reducible refine gate_store (t := 38) (p := 6) rfl ?_); refine store_event (t := 38) (p := 6) (v := ?vo_w26) (w1 := (((w23.setCell ⟨gb334, 0, none⟩ (.int .i64 ((rd_T38 l1 x17_2).f0))).setCell ⟨gb334, 1, none⟩ (.int .i64 ((rd_T38 l1 x17_2).f1))).setCell ⟨gb334, 2, none⟩ (.int .i64 ((rd_T38 l1 x17_2).f2)))) ?hg ?ho ?hn ?hr ?_; (case ho => rfl); (case hg => rfl); (case hn => rfl); (case hr => first | (go_simp; done) | (go_simp; rfl)); intro w26 hw; have n0_ : Aside0 (w26.heap[gb331]? = some (.cells #[.int .i64 a0_0, .int .i64 a0_1, .slice A0_2 l0_2.length c0_2] 35 (0, 0))) := ⟨(by rw [hw]; exact (by (with_reducible repeat (first | refine blk_drewN ?_ _ | refine blk_drew ?_ | refine blk_alloc ?_ _)); refine blk_far ?_ NB331_334.out _; (with_reducible repeat (first | refine blk_drewN ?_ _ | refine blk_drew ?_ | refine blk_alloc ?_ _)); refine blk_far ?_ NB331_334.out _; (with_reducible repeat (first | refine blk_drewN ?_ _ | refine blk_drew ?_ | refine blk_alloc ?_ _)); refine blk_far ?_ NB331_334.out _; (with_reducible repeat (first | refine blk_drewN ?_ _ | refine blk_drew ?_ | refine blk_alloc ?_ _)); exact BK331.out))⟩; have n1_ : Aside0 (w26.heap[gb334]? = some (.cells #[.int .i64 ((rd_T38 l1 x17_2).f0), .int .i64 ((rd_T38 l1 x17_2).f1), .int .i64 ((rd_T38 l1 x17_2).f2)] 38 (0, 0))) := ⟨(by rw [hw]; exact (by (with_reducible repeat (first | refine blk_drewN ?_ _ | refine blk_drew ?_ | refine blk_alloc ?_ _)); refine blk_put (cs := #[.int .i64 ((rd_T38 l1 x17_2).f0), .int .i64 ((rd_T38 l1 x17_2).f1), .int .i64 0]) ?_ 2 _ rfl; (with_reducible repeat (first | refine blk_drewN ?_ _ | refine blk_drew ?_ | refine blk_alloc ?_ _)); refine blk_put (cs := #[.int .i64 ((rd_T38 l1 x17_2).f0), .int .i64 0, .int .i64 0]) ?_ 1 _ rfl; (with_reducible repeat (first | refine blk_drewN ?_ _ | refine blk_drew ?_ | refine blk_alloc ?_ _)); refine blk_put (cs := #[.int .i64 0, .int .i64 0, .int .i64 0]) ?_ 0 _ rfl; (with_reducible repeat (first | refine blk_drewN ?_ _ | refine blk_drew ?_ | refine blk_alloc ?_ _)); exact BK334.out))⟩; have n2_ : Aside0 (Below w.heap.size w w26) := ⟨(by rw [hw]; exact Xi)⟩; clear hw; clear BK331; clear BK334; clear HB; have BK331 := n0_; have BK334 := n1_; have HB := n2_; clear n0_ n1_ n2_))
         replace BK331 := Aside0.mk (blk_drew BK331.out)
         replace BK334 := Aside0.mk (blk_drew BK334.out)
         replace HB := Aside0.mk (below_drew1 HB.out)
         have p336 : 0 ≤ ((ji18) : Int) := of_decide_eq_true Xa
         have q336 : (ji18) < (l1.length : Int) := of_decide_eq_true Xa
         obtain ⟨ad336, e336, hx336_0, hx336_1, hx336_2⟩ := at_T38 HR1.out (ji18) p336 q336
         have hw336_2 := hx336_2
         have hw336_1 := hx336_1
         have hw336_0 := hx336_0
         obtain rfl : ad333 = ad336 := (by injection e336)
         replace hx336_0 := Xm HB hx336_0
         replace hx336_1 := Xm HB hx336_1
         replace hx336_2 := Xm HB hx336_2
         replace p336 := eq_true p336
         replace q336 := eq_true q336
         refine start_ (n := 17) (S := fun w' => w'.cell? ⟨gb334, 0, none⟩ = some (.int .i64 ((rd_T38 l1 x17_2).f0)) ∧ w'.cell? ⟨gb334, 1, none⟩ = some (.int .i64 ((rd_T38 l1 x17_2).f1)) ∧ w'.cell? ⟨gb334, 2, none⟩ = some (.int .i64 ((rd_T38 l1 x17_2).f2)) ∧ w'.cell? (ad333.add (((ji18)).toNat * 3)) = some (.int .i64 ((rd_T38 l1 (ji18)).f0)) ∧ w'.cell? ⟨(ad333.add (((ji18)).toNat * 3)).block, (ad333.add (((ji18)).toNat * 3)).off + 1, none⟩ = some (.int .i64 ((rd_T38 l1 (ji18)).f1)) ∧ w'.cell? ⟨(ad333.add (((ji18)).toNat * 3)).block, (ad333.add (((ji18)).toNat * 3)).off + 2, none⟩ = some (.int .i64 ((rd_T38 l1 (ji18)).f2))) (ds := []) #[false, false, false, false, false, false, false, false, false, false, false, false, false, false, false, false, false] (by kernel_rfl) rfl rfl ⟨(blk_cell BK334.out 0).trans rfl, (blk_cell BK334.out 1).trans rfl, (blk_cell BK334.out 2).trans rfl, Xn hw336_0, Xn hw336_1, Xn hw336_2⟩ (fun hHeld => ?_); refine with_tabW impl_HoldsOK.tab6 impl_HoldsOK.bits6 (fun HT_ HW_ => ?_)
         generalize w26.drew = w27 at BK331 BK334 HB hx336_0 hx336_1 hx336_2 hHeld ⊢
         refine Xta 0 22 (XW.bs 17 1) HT_.out HW_.out hHeld ?_
         refine one_ (i := 1) (N := some 23) (XW.bs 17 3) rfl rfl (one_of HT_.out (by kernel_rfl)) (by decide) (fun K hK => ?_)
         refine goes_ Try.func203 (by kernel_rfl) rfl #[.pointer (some ⟨gb331, 0, none⟩), .agg #[.int .i64 ((rd_T38 l1 x17_2).f0), .int .i64 ((rd_T38 l1 x17_2).f1), .int .i64 ((rd_T38 l1 x17_2).f2)]] (by rfl) rfl rfl (by (try simp only [List.map_toArray, List.map_cons, List.map_nil]); first | done | rfl | (simp only [List.length_drop, List.length_take]; rfl)) ?_
         with_reducible refine (impl_Doc_isHold.calls k2 gb331 a0_0 a0_1 A0_2 c0_2 l0_2 ((rd_T38 l1 x17_2).f0) ((rd_T38 l1 x17_2).f1) ((rd_T38 l1 x17_2).f2) true _ ?side1 ?side2 ?side3 A15.out).mono ?_
         (case side1 => exact BK331.out)
         (case side2 => exact Xc HR0_2)
         (case side3 => exact HC0_2.out)
         rintro e w28 ⟨rfl, hb⟩
         refine ⟨_, rfl, ?_⟩
         replace BK331 := Xbb BK331 hb
         replace BK334 := Xbb BK334 hb
         replace HB := Aside0.mk (below_step Xi hb)
         (try clear hb)
         (try clear hb2)
         (try clear hk)
         (try clear hi)
         refine hK.out _ _ ⟨(blk_cell BK334.out 0).trans rfl, (blk_cell BK334.out 1).trans rfl, (blk_cell BK334.out 2).trans rfl, Xn hw336_0, Xn hw336_1, Xn hw336_2⟩ (fun hHeld => ?_)
         clear hK K
         refine Xno ?_
         refine Xpu 2 24 (XW.bs 17 7) HT_.out ?_
         refine Xpu 3 25 (XW.bs 17 15) HT_.out ?_
         refine Xpu 4 26 (XW.bs 17 31) HT_.out ?_
         refine Xpu 5 27 (XW.bs 17 63) HT_.out ?_
         refine Xpu 6 28 (XW.bs 17 127) HT_.out ?_
         refine Xpu 7 29 (XW.bs 17 255) HT_.out ?_
         refine Xpu 8 30 (XW.bs 17 511) HT_.out ?_
         refine Xpu 9 31 (XW.bs 17 1023) HT_.out ?_
         refine Xpu 10 32 (XW.bs 17 2047) HT_.out ?_
         refine Xta 11 33 (XW.bs 17 4095) HT_.out HW_.out hHeld ?_
         refine Xta 12 34 (XW.bs 17 8191) HT_.out HW_.out hHeld ?_
         refine one_ (i := 13) (N := some 35) (XW.bs 17 16383) rfl rfl (one_of HT_.out (by kernel_rfl)) (by decide) (fun K hK => ?_)
         refine goes_ Try.func120 (by kernel_rfl) rfl #[.agg #[.int .i64 ((rd_T38 l1 (ji18)).f0), .int .i64 ((rd_T38 l1 (ji18)).f1), .int .i64 ((rd_T38 l1 (ji18)).f2)], .agg #[.int .i64 ((rd_T38 l1 x17_2).f0), .int .i64 ((rd_T38 l1 x17_2).f1), .int .i64 ((rd_T38 l1 x17_2).f2)]] (by rfl) rfl rfl (by (try simp only [List.map_toArray, List.map_cons, List.map_nil]); first | done | (simp only [hji18]; rfl) | rfl | (simp only [List.length_drop, List.length_take]; rfl)) ?_
         with_reducible refine (impl_compareHolds.calls k2 ((rd_T38 l1 (ji18)).f0) ((rd_T38 l1 (ji18)).f1) ((rd_T38 l1 (ji18)).f2) ((rd_T38 l1 x17_2).f0) ((rd_T38 l1 x17_2).f1) ((rd_T38 l1 x17_2).f2) t337 _ A21.out).mono ?_
         rintro e w29 ⟨rfl, hb⟩
         refine ⟨_, rfl, ?_⟩
         replace BK331 := Xbb BK331 hb
         replace BK334 := Xbb BK334 hb
         replace HB := Aside0.mk (below_step Xi hb)
         (try clear hb)
         (try clear hb2)
         (try clear hk)
         (try clear hi)
         refine hK.out _ _ ⟨(blk_cell BK334.out 0).trans rfl, (blk_cell BK334.out 1).trans rfl, (blk_cell BK334.out 2).trans rfl, Xn hw336_0, Xn hw336_1, Xn hw336_2⟩ (fun hHeld => ?_)
         clear hK K
         refine Xno ?_
         refine Xpu 14 36 (XW.bs 17 32767) HT_.out ?_
         refine Xpu 15 37 (XW.bs 17 65535) HT_.out ?_
         refine Xpu 16 38 (XW.bs 17 131071) HT_.out ?_
         refine done_ (done_of HT_.out (by kernel_rfl)) ?_
         go_upto_if 38 with (fail)
         have H := HC22.out
         clear HC22
         obtain ⟨c30, H⟩ | ⟨c30, H⟩ := Xiu H
         ·have c30b0 : decide (0 ≤ t337) = true := decide_eq_true c30
          clear c30
          (first | rw [c30b0] | (simp only [i64_w, i32_w]; rw [c30b0]) | skip)
          obtain rfl := Option.some.inj H
          go_wp2
          go_ret
          exact ⟨by first | rfl | (simp [errW_none, errW_some] <;> rfl) | (simp only [← hji18]; first | rfl | (simp [errW_none, errW_some] <;> rfl)) | (simp [*, errW_none, errW_some] <;> rfl), Xi⟩
         ·have c30b0 : decide (0 ≤ t337) = false := decide_eq_false c30
          clear c30
          (first | rw [c30b0] | (simp only [i64_w, i32_w]; rw [c30b0]) | skip)
          have H' := Aside0.mk H
          clear H
          go_wp2
          go_roundg k2
          case measure => have := HJ2.out; have := HK2.out; omega
          case rel => exact ⟨(wrap64 (x17_2 + 1)), Xr, H', ⟨by have := HJ2.out; have := HK2.out; omega⟩, BK331, ⟨Xi⟩⟩
        ·have c17b0 : decide (0 < x17_2) = false := decide_eq_false c17
         clear c17
         have H' := Aside0.mk H
         clear H
         obtain ⟨ad333, e333, p333, q333, hx333_0, hx333_1, hx333_2⟩ := at_B38 HR1 x17_2 Xa Xa HB
         cases e333
         try go_wp2_with (first | ((with_reducible refine gate_dst (N := 6) rfl ?_); (try (refine gate_guard (by rfl) ?_; dsimp only)); refine Xbox 6 #[.int .i64 0, .int .i64 0, .int .i64 0] 38 ?_; intro gb334 hg w31 hbox hb; have BK334 := Aside0.mk (hbox); have GE334 := Xge hg Xi; have GW334 := GE334; replace HB := Aside0.mk (below_step Xi hb); have NB331_334 := Xnb hg BK331; have NB334_331 := Xns NB331_334; replace BK331 := Xbb BK331 hb; clear hb hbox hg; have hnb32 := NB334_331.out; have hnc32 := NB331_334.out; obtain ⟨hcz33_0, hcz33_1, hcz33_2⟩ := Xc3 BK334; obtain ⟨hfz33_0, hfz33_1, hfz33_2⟩ := Xf3 BK334) | ((with_reducible refine gate_store (t := 38) (p := 6) rfl ?_); refine store_event (t := 38) (p := 6) (v := ?vo_w34) (w1 := (((w31.setCell ⟨gb334, 0, none⟩ (.int .i64 ((rd_T38 l1 x17_2).f0))).setCell ⟨gb334, 1, none⟩ (.int .i64 ((rd_T38 l1 x17_2).f1))).setCell ⟨gb334, 2, none⟩ (.int .i64 ((rd_T38 l1 x17_2).f2)))) ?hg ?ho ?hn ?hr ?_; (case ho => rfl); (case hg => rfl); (case hn => rfl); (case hr => first | (go_simp; done) | (go_simp; rfl)); intro w34 hw; have n0_ : Aside0 (w34.heap[gb331]? = some (.cells #[.int .i64 a0_0, .int .i64 a0_1, .slice A0_2 l0_2.length c0_2] 35 (0, 0))) := ⟨(by rw [hw]; exact (by (with_reducible repeat (first | refine blk_drewN ?_ _ | refine blk_drew ?_ | refine blk_alloc ?_ _)); refine blk_far ?_ NB331_334.out _; (with_reducible repeat (first | refine blk_drewN ?_ _ | refine blk_drew ?_ | refine blk_alloc ?_ _)); refine blk_far ?_ NB331_334.out _; (with_reducible repeat (first | refine blk_drewN ?_ _ | refine blk_drew ?_ | refine blk_alloc ?_ _)); refine blk_far ?_ NB331_334.out _; (with_reducible repeat (first | refine blk_drewN ?_ _ | refine blk_drew ?_ | refine blk_alloc ?_ _)); exact BK331.out))⟩; have n1_ : Aside0 (w34.heap[gb334]? = some (.cells #[.int .i64 ((rd_T38 l1 x17_2).f0), .int .i64 ((rd_T38 l1 x17_2).f1), .int .i64 ((rd_T38 l1 x17_2).f2)] 38 (0, 0))) := ⟨(by rw [hw]; exact (by (with_reducible repeat (first | refine blk_drewN ?_ _ | refine blk_drew ?_ | refine blk_alloc ?_ _)); refine blk_put (cs := #[.int .i64 ((rd_T38 l1 x17_2).f0), .int .i64 ((rd_T38 l1 x17_2).f1), .int .i64 0]) ?_ 2 _ rfl; (with_reducible repeat (first | refine blk_drewN ?_ _ | refine blk_drew ?_ | refine blk_alloc ?_ _)); refine blk_put (cs := #[.int .i64 ((rd_T38 l1 x17_2).f0), .int .i64 0, .int .i64 0]) ?_ 1 _ rfl; (with_reducible repeat (first | refine blk_drewN ?_ _ | refine blk_drew ?_ | refine blk_alloc ?_ _)); refine blk_put (cs := #[.int .i64 0, .int .i64 0, .int .i64 0]) ?_ 0 _ rfl; (with_reducible repeat (first | refine blk_drewN ?_ _ | refine blk_drew ?_ | refine blk_alloc ?_ _)); exact BK334.out))⟩; have n2_ : Aside0 (Below w.heap.size w w34) := ⟨(by rw [hw]; exact Xi)⟩; clear hw; clear BK331; clear BK334; clear HB; have BK331 := n0_; have BK334 := n1_; have HB := n2_; clear n0_ n1_ n2_))
         replace BK331 := Aside0.mk (blk_drew BK331.out)
         replace BK334 := Aside0.mk (blk_drew BK334.out)
         replace HB := Aside0.mk (below_drew1 HB.out)
         refine start_ (n := 17) (S := fun w' => w'.cell? ⟨gb334, 0, none⟩ = some (.int .i64 ((rd_T38 l1 x17_2).f0)) ∧ w'.cell? ⟨gb334, 1, none⟩ = some (.int .i64 ((rd_T38 l1 x17_2).f1)) ∧ w'.cell? ⟨gb334, 2, none⟩ = some (.int .i64 ((rd_T38 l1 x17_2).f2))) (ds := []) #[false, false, false, false, false, false, false, false, false, false, false, false, false, false, false, false, false] (by kernel_rfl) rfl rfl ⟨(blk_cell BK334.out 0).trans rfl, (blk_cell BK334.out 1).trans rfl, (blk_cell BK334.out 2).trans rfl⟩ (fun hHeld => ?_); refine with_tabW impl_HoldsOK.tab6 impl_HoldsOK.bits6 (fun HT_ HW_ => ?_)
         generalize w34.drew = w35 at BK331 BK334 HB hHeld ⊢
         refine Xta 0 22 (XW.bs 17 1) HT_.out HW_.out hHeld ?_
         refine one_ (i := 1) (N := some 23) (XW.bs 17 3) rfl rfl (one_of HT_.out (by kernel_rfl)) (by decide) (fun K hK => ?_)
         refine goes_ Try.func203 (by kernel_rfl) rfl #[.pointer (some ⟨gb331, 0, none⟩), .agg #[.int .i64 ((rd_T38 l1 x17_2).f0), .int .i64 ((rd_T38 l1 x17_2).f1), .int .i64 ((rd_T38 l1 x17_2).f2)]] (by rfl) rfl rfl (by (try simp only [List.map_toArray, List.map_cons, List.map_nil]); first | done | rfl | (simp only [List.length_drop, List.length_take]; rfl)) ?_
         with_reducible refine (impl_Doc_isHold.calls k2 gb331 a0_0 a0_1 A0_2 c0_2 l0_2 ((rd_T38 l1 x17_2).f0) ((rd_T38 l1 x17_2).f1) ((rd_T38 l1 x17_2).f2) true _ ?side1 ?side2 ?side3 A15.out).mono ?_
         (case side1 => exact BK331.out)
         (case side2 => exact Xc HR0_2)
         (case side3 => exact HC0_2.out)
         rintro e w36 ⟨rfl, hb⟩
         refine ⟨_, rfl, ?_⟩
         replace BK331 := Xbb BK331 hb
         replace BK334 := Xbb BK334 hb
         replace HB := Aside0.mk (below_step Xi hb)
         (try clear hb)
         (try clear hb2)
         (try clear hk)
         (try clear hi)
         refine hK.out _ _ ⟨(blk_cell BK334.out 0).trans rfl, (blk_cell BK334.out 1).trans rfl, (blk_cell BK334.out 2).trans rfl⟩ (fun hHeld => ?_)
         clear hK K
         refine Xno ?_
         refine Xpu 2 24 (XW.bs 17 7) HT_.out ?_
         refine Xpu 3 25 (XW.bs 17 15) HT_.out ?_
         refine Xpu 4 26 (XW.bs 17 31) HT_.out ?_
         refine Xpu 5 27 (XW.bs 17 63) HT_.out ?_
         refine Xpu 6 28 (XW.bs 17 127) HT_.out ?_
         refine Xpn 7 29 (XW.bs 17 255) HT_.out ?_
         refine Xpn 8 30 (XW.bs 17 511) HT_.out ?_
         refine Xpn 9 31 (XW.bs 17 1023) HT_.out ?_
         refine Xpn 10 32 (XW.bs 17 2047) HT_.out ?_
         refine Xpn 11 33 (XW.bs 17 4095) HT_.out ?_
         refine Xpn 12 34 (XW.bs 17 8191) HT_.out ?_
         refine Xpn 13 35 (XW.bs 17 16383) HT_.out ?_
         refine Xpn 14 36 (XW.bs 17 32767) HT_.out ?_
         refine Xpu 15 37 (XW.bs 17 65535) HT_.out ?_
         refine Xpu 16 38 (XW.bs 17 131071) HT_.out ?_
         refine done_ (done_of HT_.out (by kernel_rfl)) ?_
         try go_wp2_with (fail)
         go_roundg k2
         case measure => have := HJ2.out; have := HK2.out; omega
         case rel => exact ⟨(wrap64 (x17_2 + 1)), Xr, H', ⟨by have := HJ2.out; have := HK2.out; omega⟩, BK331, ⟨Xi⟩⟩
       ·replace c16 := Bool.eq_false_iff.mpr c16
        subst c16
        (first | rw [if_neg (show ¬ (false = true) by decide)] at H | skip)
        obtain rfl := Option.some.inj H
        obtain ⟨ad333, e333, p333, q333, hx333_0, hx333_1, hx333_2⟩ := at_B38 HR1 x17_2 Xa Xa HB
        cases e333
        try go_wp2_with (first | ((with_reducible refine gate_dst (N := 6) rfl ?_); (try (refine gate_guard (by rfl) ?_; dsimp only)); refine Xbox 6 #[.int .i64 0, .int .i64 0, .int .i64 0] 38 ?_; intro gb334 hg w37 hbox hb; have BK334 := Aside0.mk (hbox); have GE334 := Xge hg Xi; have GW334 := GE334; replace HB := Aside0.mk (below_step Xi hb); have NB331_334 := Xnb hg BK331; have NB334_331 := Xns NB331_334; replace BK331 := Xbb BK331 hb; clear hb hbox hg; have hnb38 := NB334_331.out; have hnc38 := NB331_334.out; obtain ⟨hcz39_0, hcz39_1, hcz39_2⟩ := Xc3 BK334; obtain ⟨hfz39_0, hfz39_1, hfz39_2⟩ := Xf3 BK334) | ((with_reducible refine gate_store (t := 38) (p := 6) rfl ?_); refine store_event (t := 38) (p := 6) (v := ?vo_w40) (w1 := (((w37.setCell ⟨gb334, 0, none⟩ (.int .i64 ((rd_T38 l1 x17_2).f0))).setCell ⟨gb334, 1, none⟩ (.int .i64 ((rd_T38 l1 x17_2).f1))).setCell ⟨gb334, 2, none⟩ (.int .i64 ((rd_T38 l1 x17_2).f2)))) ?hg ?ho ?hn ?hr ?_; (case ho => rfl); (case hg => rfl); (case hn => rfl); (case hr => first | (go_simp; done) | (go_simp; rfl)); intro w40 hw; have n0_ : Aside0 (w40.heap[gb331]? = some (.cells #[.int .i64 a0_0, .int .i64 a0_1, .slice A0_2 l0_2.length c0_2] 35 (0, 0))) := ⟨(by rw [hw]; exact (by (with_reducible repeat (first | refine blk_drewN ?_ _ | refine blk_drew ?_ | refine blk_alloc ?_ _)); refine blk_far ?_ NB331_334.out _; (with_reducible repeat (first | refine blk_drewN ?_ _ | refine blk_drew ?_ | refine blk_alloc ?_ _)); refine blk_far ?_ NB331_334.out _; (with_reducible repeat (first | refine blk_drewN ?_ _ | refine blk_drew ?_ | refine blk_alloc ?_ _)); refine blk_far ?_ NB331_334.out _; (with_reducible repeat (first | refine blk_drewN ?_ _ | refine blk_drew ?_ | refine blk_alloc ?_ _)); exact BK331.out))⟩; have n1_ : Aside0 (w40.heap[gb334]? = some (.cells #[.int .i64 ((rd_T38 l1 x17_2).f0), .int .i64 ((rd_T38 l1 x17_2).f1), .int .i64 ((rd_T38 l1 x17_2).f2)] 38 (0, 0))) := ⟨(by rw [hw]; exact (by (with_reducible repeat (first | refine blk_drewN ?_ _ | refine blk_drew ?_ | refine blk_alloc ?_ _)); refine blk_put (cs := #[.int .i64 ((rd_T38 l1 x17_2).f0), .int .i64 ((rd_T38 l1 x17_2).f1), .int .i64 0]) ?_ 2 _ rfl; (with_reducible repeat (first | refine blk_drewN ?_ _ | refine blk_drew ?_ | refine blk_alloc ?_ _)); refine blk_put (cs := #[.int .i64 ((rd_T38 l1 x17_2).f0), .int .i64 0, .int .i64 0]) ?_ 1 _ rfl; (with_reducible repeat (first | refine blk_drewN ?_ _ | refine blk_drew ?_ | refine blk_alloc ?_ _)); refine blk_put (cs := #[.int .i64 0, .int .i64 0, .int .i64 0]) ?_ 0 _ rfl; (with_reducible repeat (first | refine blk_drewN ?_ _ | refine blk_drew ?_ | refine blk_alloc ?_ _)); exact BK334.out))⟩; have n2_ : Aside0 (Below w.heap.size w w40) := ⟨(by rw [hw]; exact Xi)⟩; clear hw; clear BK331; clear BK334; clear HB; have BK331 := n0_; have BK334 := n1_; have HB := n2_; clear n0_ n1_ n2_))
        replace BK331 := Aside0.mk (blk_drew BK331.out)
        replace BK334 := Aside0.mk (blk_drew BK334.out)
        replace HB := Aside0.mk (below_drew1 HB.out)
        refine start_ (n := 17) (S := fun w' => w'.cell? ⟨gb334, 0, none⟩ = some (.int .i64 ((rd_T38 l1 x17_2).f0)) ∧ w'.cell? ⟨gb334, 1, none⟩ = some (.int .i64 ((rd_T38 l1 x17_2).f1)) ∧ w'.cell? ⟨gb334, 2, none⟩ = some (.int .i64 ((rd_T38 l1 x17_2).f2))) (ds := []) #[false, false, false, false, false, false, false, false, false, false, false, false, false, false, false, false, false] (by kernel_rfl) rfl rfl ⟨(blk_cell BK334.out 0).trans rfl, (blk_cell BK334.out 1).trans rfl, (blk_cell BK334.out 2).trans rfl⟩ (fun hHeld => ?_); refine with_tabW impl_HoldsOK.tab6 impl_HoldsOK.bits6 (fun HT_ HW_ => ?_)
        generalize w40.drew = w41 at BK331 BK334 HB hHeld ⊢
        refine Xta 0 22 (XW.bs 17 1) HT_.out HW_.out hHeld ?_
        refine one_ (i := 1) (N := some 23) (XW.bs 17 3) rfl rfl (one_of HT_.out (by kernel_rfl)) (by decide) (fun K hK => ?_)
        refine goes_ Try.func203 (by kernel_rfl) rfl #[.pointer (some ⟨gb331, 0, none⟩), .agg #[.int .i64 ((rd_T38 l1 x17_2).f0), .int .i64 ((rd_T38 l1 x17_2).f1), .int .i64 ((rd_T38 l1 x17_2).f2)]] (by rfl) rfl rfl (by (try simp only [List.map_toArray, List.map_cons, List.map_nil]); first | done | rfl | (simp only [List.length_drop, List.length_take]; rfl)) ?_
        with_reducible refine (impl_Doc_isHold.calls k2 gb331 a0_0 a0_1 A0_2 c0_2 l0_2 ((rd_T38 l1 x17_2).f0) ((rd_T38 l1 x17_2).f1) ((rd_T38 l1 x17_2).f2) false _ ?side1 ?side2 ?side3 A15.out).mono ?_
        (case side1 => exact BK331.out)
        (case side2 => exact Xc HR0_2)
        (case side3 => exact HC0_2.out)
        rintro e w42 ⟨rfl, hb⟩
        refine ⟨_, rfl, ?_⟩
        replace BK331 := Xbb BK331 hb
        replace BK334 := Xbb BK334 hb
        replace HB := Aside0.mk (below_step Xi hb)
        (try clear hb)
        (try clear hb2)
        (try clear hk)
        (try clear hi)
        refine hK.out _ _ ⟨(blk_cell BK334.out 0).trans rfl, (blk_cell BK334.out 1).trans rfl, (blk_cell BK334.out 2).trans rfl⟩ (fun hHeld => ?_)
        clear hK K
        refine Xno ?_
        refine Xpu 2 24 (XW.bs 17 7) HT_.out ?_
        refine Xpu 3 25 (XW.bs 17 15) HT_.out ?_
        refine Xpn 4 26 (XW.bs 17 31) HT_.out ?_
        refine Xpn 5 27 (XW.bs 17 63) HT_.out ?_
        refine Xpn 6 28 (XW.bs 17 127) HT_.out ?_
        refine Xpn 7 29 (XW.bs 17 255) HT_.out ?_
        refine Xpn 8 30 (XW.bs 17 511) HT_.out ?_
        refine Xpn 9 31 (XW.bs 17 1023) HT_.out ?_
        refine Xpn 10 32 (XW.bs 17 2047) HT_.out ?_
        refine Xpn 11 33 (XW.bs 17 4095) HT_.out ?_
        refine Xpn 12 34 (XW.bs 17 8191) HT_.out ?_
        refine Xpn 13 35 (XW.bs 17 16383) HT_.out ?_
        refine Xpn 14 36 (XW.bs 17 32767) HT_.out ?_
        refine Xpn 15 37 (XW.bs 17 65535) HT_.out ?_
        refine Xpu 16 38 (XW.bs 17 131071) HT_.out ?_
        refine done_ (done_of HT_.out (by kernel_rfl)) ?_
        try go_wp2_with (fail)
        go_ret
        exact ⟨Xe, Xi⟩
      ·obtain rfl := Option.some.inj H
       go_wp2
       go_ret
       exact ⟨Xe, Xi⟩

end Go.Proofs.Ytocelbmpnjnnbaa.XA
