/- Contracts of the program's functions: each Go function that is named below comes to what its Lean function says. Written by xprint.py (a program of this session's, over the kit's print). Conditions: each contract's own premises. -/
import Derived.Test.YtnanfenogmpemaaYCoverOf0
import Derived.Test.YtnanfenogmpemaaYCoverOf1
import Derived.Test.YtnanfenogmpemaaYCoverOf2
import Derived.Test.YtnanfenogmpemaaYCoverOf9
import Derived.Test.YtnanfenogmpemaaYCoverOf15
namespace Go.Proofs.Ytnanfenogmpemaa.XA
open Go.RowKit Go.Proofs.YtnanfenogmpemaaW.PrintWords Go.Proofs.YtnanfenogmpemaaW.PrintLast Go.Proofs.YtnanfenogmpemaaW.PrintMore XW
attribute [local go_sem] max2_int min2_int max_two min_two max_three min_three max_four min_four   -- for this text's walks alone
set_option linter.unusedVariables false
set_option linter.unusedSimpArgs false

/-! ### laws_eqHold: function 50 -/
def laws_eqHold.f (a0_0 : Int) (a0_1 : Int) (a0_2 : Int) (a1_0 : Int) (a1_1 : Int) (a1_2 : Int) : Option (Bool) := if a0_0 = a1_0 then (if a0_1 = a1_1 then (if a0_2 = a1_2 then (some true) else (some false)) else (some false)) else (some false)
set_option maxHeartbeats 8000000 in
set_option maxRecDepth 100000 in
theorem laws_eqHold.calls (a0_0 : Int) (a0_1 : Int) (a0_2 : Int) (a1_0 : Int) (a1_1 : Int) (a1_2 : Int) (r : Bool) (w : World) (h : laws_eqHold.f a0_0 a0_1 a0_2 a1_0 a1_1 a1_2 = some r) :
  Calls Try.prog 50 #[.agg #[.int .i64 a0_0, .int .i64 a0_1, .int .i64 a0_2], .agg #[.int .i64 a1_0, .int .i64 a1_1, .int .i64 a1_2]] w fun e w' => e = .returned (.bool r) ∧ Below w.heap.size w w' := by
 have hu55 := Try.underlying55
 have HB := Aside0.mk (Below.refl w.heap.size w)
 have H : (if a0_0 = a1_0 then (if a0_1 = a1_1 then (if a0_2 = a1_2 then (some true) else (some false)) else (some false)) else (some false)) = some r := h
 clear h
 have HC3 := Aside0.mk H
 clear H
 go_enter Try.func50, Try.ntmps50
 go_upto_if 9 with (first | ((with_reducible refine gate_dst (N := 2) rfl ?_); refine Xbox 2 #[.int .i64 a0_0, .int .i64 a0_1, .int .i64 a0_2] 55 ?_; intro gb353 hg w4 hbox hb; have BK353 := Aside0.mk (hbox); have GE353 := Xge hg Xi; replace HB := Aside0.mk (below_step Xi hb); clear hb hbox hg) | ((with_reducible refine gate_dst (N := 3) rfl ?_); refine Xbox 3 #[.int .i64 a1_0, .int .i64 a1_1, .int .i64 a1_2] 55 ?_; intro gb354 hg w5 hbox hb; have BK354 := Aside0.mk (hbox); have GE354 := Xge hg Xi; replace HB := Aside0.mk (below_step Xi hb); have NB353_354 := Xnb hg BK353; have NB354_353 := Xns NB353_354; replace BK353 := Xbb BK353 hb; clear hb hbox hg; have hnb6 := NB353_354.out; have hnc6 := NB354_353.out; obtain ⟨hcz7_0, hcz7_1, hcz7_2⟩ := Xc3 BK353; obtain ⟨hcz8_0, hcz8_1, hcz8_2⟩ := Xc3 BK354))
 have H := HC3.out
 clear HC3
 obtain ⟨c9, H⟩ | ⟨c9, H⟩ := Xiu H
 ·have c9b0 : (a0_0 == a1_0) = true := beq_iff_eq.mpr c9
  have c9b1 : (a0_0 != a1_0) = false := bne_eq_false_iff_eq.mpr c9
  clear c9
  (first | rw [c9b0] | (simp only [i64_w, i32_w]; rw [c9b0]) | skip)
  obtain ⟨c10, H⟩ | ⟨c10, H⟩ := Xiu H
  ·have c10b0 : (a0_1 == a1_1) = true := beq_iff_eq.mpr c10
   have c10b1 : (a0_1 != a1_1) = false := bne_eq_false_iff_eq.mpr c10
   clear c10
   obtain ⟨c11, H⟩ | ⟨c11, H⟩ := Xiu H
   ·have c11b0 : (a0_2 == a1_2) = true := beq_iff_eq.mpr c11
    have c11b1 : (a0_2 != a1_2) = false := bne_eq_false_iff_eq.mpr c11
    clear c11
    obtain rfl := Option.some.inj H
    have hnb12 := NB353_354.out
    have hnc12 := NB354_353.out
    obtain ⟨hcz13_0, hcz13_1, hcz13_2⟩ := Xc3 BK353
    obtain ⟨hcz14_0, hcz14_1, hcz14_2⟩ := Xc3 BK354
    go_wp2
    go_ret
    exact ⟨Xe, Xi⟩
   ·have c11b0 : (a0_2 == a1_2) = false := beq_eq_false_iff_ne.mpr c11
    have c11b1 : (a0_2 != a1_2) = true := bne_iff_ne.mpr c11
    obtain rfl := Option.some.inj H
    have hnb15 := NB353_354.out
    have hnc15 := NB354_353.out
    obtain ⟨hcz16_0, hcz16_1, hcz16_2⟩ := Xc3 BK353
    obtain ⟨hcz17_0, hcz17_1, hcz17_2⟩ := Xc3 BK354
    go_wp2
    go_ret
    exact ⟨Xe, Xi⟩
  ·have c10b0 : (a0_1 == a1_1) = false := beq_eq_false_iff_ne.mpr c10
   have c10b1 : (a0_1 != a1_1) = true := bne_iff_ne.mpr c10
   obtain rfl := Option.some.inj H
   have hnb18 := NB353_354.out
   have hnc18 := NB354_353.out
   obtain ⟨hcz19_0, hcz19_1, hcz19_2⟩ := Xc3 BK353
   obtain ⟨hcz20_0, hcz20_1, hcz20_2⟩ := Xc3 BK354
   go_wp2
   go_ret
   exact ⟨Xe, Xi⟩
 ·have c9b0 : (a0_0 == a1_0) = false := beq_eq_false_iff_ne.mpr c9
  have c9b1 : (a0_0 != a1_0) = true := bne_iff_ne.mpr c9
  (first | rw [c9b0] | (simp only [i64_w, i32_w]; rw [c9b0]) | skip)
  obtain rfl := Option.some.inj H
  go_wp2
  go_ret
  exact ⟨Xe, Xi⟩

/-! ### laws_eqHoldS: function 22 -/
def laws_eqHoldS.l0 : Nat → List (S55) → List (S55) → Int → Option (Bool)
 | 0, _, _, _ => none
 | k + 1, x0, x1, x5 => if x5 < (x0.length : Int) then (if 0 ≤ x5 then (if x5 < (x1.length : Int) then ((laws_eqHold.f ((rd_T55 x0 x5).f0) ((rd_T55 x0 x5).f1) ((rd_T55 x0 x5).f2) ((rd_T55 x1 x5).f0) ((rd_T55 x1 x5).f1) ((rd_T55 x1 x5).f2)).bind fun t357 => (if t357 = true then (laws_eqHoldS.l0 k x0 x1 (wrap64 (x5 + 1))) else (some false))) else (none)) else (none)) else (some true)
def laws_eqHoldS.f (k : Nat) (l0 : List (S55)) (l1 : List (S55)) : Option (Bool) := if (l0.length : Int) = (l1.length : Int) then (laws_eqHoldS.l0 k l0 l1 0) else (some false)
def laws_eqHoldS.T6 : Bool × List (List Nat × List Nat) := (true, [([], []), ([], []), ([0, 1], [0, 1]), ([2], [2]), ([], []), ([], []), ([4, 5], [4, 5]), ([6], [6]), ([3, 7], [3, 7]), ([8], [8])])
def laws_eqHoldS.B6 : List Nat := [0, 0, 3, 7, 0, 0, 48, 112, 255, 511]
theorem laws_eqHoldS.tab6 : rtab .any (opsOf Try.f22 6) = laws_eqHoldS.T6 := by kernel_rfl
theorem laws_eqHoldS.bits6 : waitsOk laws_eqHoldS.T6.2 laws_eqHoldS.B6 = true := by kernel_rfl
set_option maxHeartbeats 8000000 in
set_option maxRecDepth 100000 in
theorem laws_eqHoldS.calls (k : Nat) (A0 : Option Addr) (c0 : Nat) (l0 : List (S55)) (A1 : Option Addr) (c1 : Nat) (l1 : List (S55)) (r : Bool) (w : World) (hr0 : Kd.C k55 w A0 l0.length l0) (hc0 : l0.length ≤ c0) (hr1 : Kd.C k55 w A1 l1.length l1) (hc1 : l1.length ≤ c1) (h : laws_eqHoldS.f k l0 l1 = some r) :
  Calls Try.prog 22 #[.slice A0 l0.length c0, .slice A1 l1.length c1] w fun e w' => e = .returned (.bool r) ∧ Below w.heap.size w w' := by
 have hu55 := Try.underlying55
 have HR0 := Aside0.mk hr0
 have HC0 := Aside0.mk hc0
 clear hr0 hc0
 have HR1 := Aside0.mk hr1
 have HC1 := Aside0.mk hc1
 clear hr1 hc1
 have HB := Aside0.mk (Below.refl w.heap.size w)
 have H : (if (l0.length : Int) = (l1.length : Int) then (laws_eqHoldS.l0 k l0 l1 0) else (some false)) = some r := h
 clear h
 obtain ⟨c3, H⟩ | ⟨c3, H⟩ := Xiu H
 ·have c3b0 : ((l0.length : Int) == (l1.length : Int)) = true := beq_iff_eq.mpr c3
  have c3b1 : ((l0.length : Int) != (l1.length : Int)) = false := bne_eq_false_iff_eq.mpr c3
  have c3b2 : (l0.length == l1.length) = true := by first | simpa using c3 | (simp at c3 ⊢; omega)
  clear c3
  have H' := Aside0.mk H
  clear H
  go_enter Try.func22, Try.ntmps22
  go_wp2
  go_loopg [5] k (fun kq v5 w' => ∃ (x5_1 : Int), v5 = .int .i64 x5_1 ∧ Aside0 (laws_eqHoldS.l0 kq l0 l1 x5_1 = some r) ∧ Aside0 (kq ≤ k) ∧ Aside0 (Below w.heap.size w w'))
  case atStart => exact ⟨(0), Xr, H', Xkr, ⟨Xi⟩⟩
  case round =>
   clear H'
   (try clear c1); (try clear c3); (try clear c3b0); (try clear c3b1); (try clear c3b2)
   obtain ⟨x5_1, rfl, HA, HK1, HB⟩ := hrel
   cases gk with
   | zero => cases HA.out
   | succ k1 =>
    have H := HA.out
    clear HA
    simp only [laws_eqHoldS.l0] at H
    obtain ⟨c4b0, H⟩ | ⟨c4b0, H⟩ := Xit H
    ·obtain ⟨c5b0, H⟩ := Xid H
     obtain ⟨c6b0, H⟩ := Xid H
     obtain ⟨t357, A7, H⟩ := Xbi H
     (try dsimp only at H)
     have HC8 := Aside0.mk H
     clear H
     try go_wp2_with (fail)
     replace HB := Aside0.mk (below_drew1 HB.out)
     have p355 : 0 ≤ (x5_1 : Int) := of_decide_eq_true Xa
     have q355 : x5_1 < (l0.length : Int) := of_decide_eq_true Xa
     obtain ⟨ad355, e355, hx355_0, hx355_1, hx355_2⟩ := at_T55 HR0.out x5_1 p355 q355
     have hw355_2 := hx355_2
     have hw355_1 := hx355_1
     have hw355_0 := hx355_0
     cases e355
     replace hx355_0 := Xm HB hx355_0
     replace hx355_1 := Xm HB hx355_1
     replace hx355_2 := Xm HB hx355_2
     replace p355 := eq_true p355
     replace q355 := eq_true q355
     have p356 : 0 ≤ (x5_1 : Int) := of_decide_eq_true Xa
     have q356 : x5_1 < (l1.length : Int) := of_decide_eq_true Xa
     obtain ⟨ad356, e356, hx356_0, hx356_1, hx356_2⟩ := at_T55 HR1.out x5_1 p356 q356
     have hw356_2 := hx356_2
     have hw356_1 := hx356_1
     have hw356_0 := hx356_0
     cases e356
     replace hx356_0 := Xm HB hx356_0
     replace hx356_1 := Xm HB hx356_1
     replace hx356_2 := Xm HB hx356_2
     replace p356 := eq_true p356
     replace q356 := eq_true q356
     refine start_ (n := 10) (S := fun w' => w'.cell? (ad355.add ((x5_1).toNat * 3)) = some (.int .i64 ((rd_T55 l0 x5_1).f0)) ∧ w'.cell? ⟨(ad355.add ((x5_1).toNat * 3)).block, (ad355.add ((x5_1).toNat * 3)).off + 1, none⟩ = some (.int .i64 ((rd_T55 l0 x5_1).f1)) ∧ w'.cell? ⟨(ad355.add ((x5_1).toNat * 3)).block, (ad355.add ((x5_1).toNat * 3)).off + 2, none⟩ = some (.int .i64 ((rd_T55 l0 x5_1).f2)) ∧ w'.cell? (ad356.add ((x5_1).toNat * 3)) = some (.int .i64 ((rd_T55 l1 x5_1).f0)) ∧ w'.cell? ⟨(ad356.add ((x5_1).toNat * 3)).block, (ad356.add ((x5_1).toNat * 3)).off + 1, none⟩ = some (.int .i64 ((rd_T55 l1 x5_1).f1)) ∧ w'.cell? ⟨(ad356.add ((x5_1).toNat * 3)).block, (ad356.add ((x5_1).toNat * 3)).off + 2, none⟩ = some (.int .i64 ((rd_T55 l1 x5_1).f2))) (ds := []) #[false, false, false, false, false, false, false, false, false, false] (by kernel_rfl) rfl rfl ⟨Xn hw355_0, Xn hw355_1, Xn hw355_2, Xn hw356_0, Xn hw356_1, Xn hw356_2⟩ (fun hHeld => ?_); refine with_tabW laws_eqHoldS.tab6 laws_eqHoldS.bits6 (fun HT_ HW_ => ?_)
     generalize wr.drew = w9 at HB hx355_0 hx355_1 hx355_2 hx356_0 hx356_1 hx356_2 hHeld ⊢
     refine Xpu 0 17 (XW.bs 10 1) HT_.out ?_
     refine Xpu 1 18 (XW.bs 10 3) HT_.out ?_
     refine Xpu 2 19 (XW.bs 10 7) HT_.out ?_
     refine Xpu 4 21 (XW.bs 10 23) HT_.out ?_
     refine Xpu 5 22 (XW.bs 10 55) HT_.out ?_
     refine Xpu 6 23 (XW.bs 10 119) HT_.out ?_
     refine Xta 3 20 (XW.bs 10 127) HT_.out HW_.out hHeld ?_
     refine Xta 7 24 (XW.bs 10 255) HT_.out HW_.out hHeld ?_
     refine one_ (i := 8) (N := some 25) (XW.bs 10 511) rfl rfl (one_of HT_.out (by kernel_rfl)) (by decide) (fun K hK => ?_)
     refine goes_ Try.func50 (by kernel_rfl) rfl #[.agg #[.int .i64 ((rd_T55 l0 x5_1).f0), .int .i64 ((rd_T55 l0 x5_1).f1), .int .i64 ((rd_T55 l0 x5_1).f2)], .agg #[.int .i64 ((rd_T55 l1 x5_1).f0), .int .i64 ((rd_T55 l1 x5_1).f1), .int .i64 ((rd_T55 l1 x5_1).f2)]] (by rfl) rfl rfl (by (try simp only [List.map_toArray, List.map_cons, List.map_nil]); first | done | rfl | (simp only [List.length_drop, List.length_take]; rfl)) ?_
     with_reducible refine (laws_eqHold.calls ((rd_T55 l0 x5_1).f0) ((rd_T55 l0 x5_1).f1) ((rd_T55 l0 x5_1).f2) ((rd_T55 l1 x5_1).f0) ((rd_T55 l1 x5_1).f1) ((rd_T55 l1 x5_1).f2) t357 _ A7.out).mono ?_
     rintro e w10 ⟨rfl, hb⟩
     refine ⟨_, rfl, ?_⟩
     replace HB := Aside0.mk (below_step Xi hb)
     (try clear hb)
     (try clear hb2)
     (try clear hk)
     (try clear hi)
     refine hK.out _ _ ⟨Xn hw355_0, Xn hw355_1, Xn hw355_2, Xn hw356_0, Xn hw356_1, Xn hw356_2⟩ (fun hHeld => ?_)
     clear hK K
     refine Xno ?_
     refine Xpu 9 26 (XW.bs 10 1023) HT_.out ?_
     refine done_ (done_of HT_.out (by kernel_rfl)) ?_
     go_upto_if 26 with (fail)
     have H := HC8.out
     clear HC8
     by_cases c11 : t357 = true
     ·subst c11
      (first | rw [if_pos rfl] at H | skip)
      have H' := Aside0.mk H
      clear H
      go_wp2
      go_roundg k1
      case measure => have := HK1.out; omega
      case rel => exact ⟨(wrap64 (x5_1 + 1)), Xr, H', Xk1, ⟨Xi⟩⟩
     ·replace c11 := Bool.eq_false_iff.mpr c11
      subst c11
      (first | rw [if_neg (show ¬ (false = true) by decide)] at H | skip)
      obtain rfl := Option.some.inj H
      go_wp2
      go_ret
      exact ⟨Xe, Xi⟩
    ·obtain rfl := Option.some.inj H
     go_wp2
     go_ret
     exact ⟨Xe, Xi⟩
 ·have c3b0 : ((l0.length : Int) == (l1.length : Int)) = false := beq_eq_false_iff_ne.mpr c3
  have c3b1 : ((l0.length : Int) != (l1.length : Int)) = true := bne_iff_ne.mpr c3
  have c3b2 : (l0.length == l1.length) = false := by first | simpa using c3 | (simp at c3 ⊢; omega)
  obtain rfl := Option.some.inj H
  go_enter Try.func22, Try.ntmps22
  go_wp2
  go_ret
  exact ⟨Xe, Xi⟩

/-! ### laws_FnExactCoverOf: function 4 -/
def laws_FnExactCoverOf.j0 : Nat → List (S53) → List (S55) → Bool → Int → Int → List (S96) → Int → Int → List (S92) → Option (Bool)
 | 0, _, _, _, _, _, _, _, _, _ => none
 | k + 1, x1, x13, x55, x359000, x359001, x359002, x377000, x377001, x377002 => if x55 = true then (some false) else ((laws_toDoc.f k x359000 x359001 x359002).bind fun bt382 => ((laws_eqDoc.f k x377000 x377001 x377002 bt382.1 bt382.2.1 bt382.2.2).bind fun t387 => (if t387 = true then ((laws_toHoldS.f k x1).bind fun t388 => ((laws_eqHoldS.f k x13 t388).bind fun t391 => (if t391 = true then (some true) else (some false)))) else (some false))))
def laws_FnExactCoverOf.f (k : Nat) (a0_0 : Int) (a0_1 : Int) (l0_2 : List (S96)) (l1 : List (S53)) (a2 : Int) (a3 : Int) : Option (Bool) := (laws_szDoc.f k a0_0 a0_1 l0_2 1048576).bind fun t359 => (if t359 < 0 then (some true) else ((laws_szHoldS.f l1 t359).bind fun t360 => (if t360 < 0 then (some true) else ((laws_toDoc.f k a0_0 a0_1 l0_2).bind fun bt361 => ((laws_toHoldS.f k l1).bind fun t366 => ((spec_CoverOf.f k bt361.1 bt361.2.1 bt361.2.2 t366 a2 a3).bind fun bt369 => ((laws_toDoc.f k a0_0 a0_1 l0_2).bind fun bt371 => ((laws_toHoldS.f k l1).bind fun t377 => ((impl_CoverOf.f k bt371.1 bt371.2.1 bt371.2.2 t377 a2 a3).bind fun bt380 => (if bt380.1 = bt369.1 then (laws_FnExactCoverOf.j0 k l1 t377 (bt380.2 != bt369.2) a0_0 a0_1 l0_2 bt371.1 bt371.2.1 bt371.2.2) else (laws_FnExactCoverOf.j0 k l1 t377 true a0_0 a0_1 l0_2 bt371.1 bt371.2.1 bt371.2.2)))))))))))
set_option maxHeartbeats 8000000 in
set_option maxRecDepth 100000 in
theorem laws_FnExactCoverOf.calls (k : Nat) (a0_0 : Int) (a0_1 : Int) (A0_2 : Option Addr) (c0_2 : Nat) (l0_2 : List (S96)) (A1 : Option Addr) (c1 : Nat) (l1 : List (S53)) (a2 : Int) (a3 : Int) (r : Bool) (w : World) (hr0_2 : Kd.C k96 w A0_2 l0_2.length l0_2) (hc0_2 : l0_2.length ≤ c0_2) (hr1 : Kd.C k53 w A1 l1.length l1) (hc1 : l1.length ≤ c1) (hr_ : r = true) (h : laws_FnExactCoverOf.f k a0_0 a0_1 l0_2 l1 a2 a3 = some r) :
  Calls Try.prog 4 #[.agg #[.int .i64 a0_0, .int .i64 a0_1, .slice A0_2 l0_2.length c0_2], .slice A1 l1.length c1, .int .i64 a2, .int .i64 a3] w fun e w' => e = .returned (.bool r) ∧ Below w.heap.size w w' := by
 subst hr_
 have hu24 := Try.underlying24
 have hu33 := Try.underlying33
 have HR0_2 := Aside0.mk hr0_2
 have HC0_2 := Aside0.mk hc0_2
 clear hr0_2 hc0_2
 have HR1 := Aside0.mk hr1
 have HC1 := Aside0.mk hc1
 clear hr1 hc1
 have HB := Aside0.mk (Below.refl w.heap.size w)
 have H : ((laws_szDoc.f k a0_0 a0_1 l0_2 1048576).bind fun t359 => (if t359 < 0 then (some true) else ((laws_szHoldS.f l1 t359).bind fun t360 => (if t360 < 0 then (some true) else ((laws_toDoc.f k a0_0 a0_1 l0_2).bind fun bt361 => ((laws_toHoldS.f k l1).bind fun t366 => ((spec_CoverOf.f k bt361.1 bt361.2.1 bt361.2.2 t366 a2 a3).bind fun bt369 => ((laws_toDoc.f k a0_0 a0_1 l0_2).bind fun bt371 => ((laws_toHoldS.f k l1).bind fun t377 => ((impl_CoverOf.f k bt371.1 bt371.2.1 bt371.2.2 t377 a2 a3).bind fun bt380 => (if bt380.1 = bt369.1 then (laws_FnExactCoverOf.j0 k l1 t377 (bt380.2 != bt369.2) a0_0 a0_1 l0_2 bt371.1 bt371.2.1 bt371.2.2) else (laws_FnExactCoverOf.j0 k l1 t377 true a0_0 a0_1 l0_2 bt371.1 bt371.2.1 bt371.2.2)))))))))))) = some true := h
 clear h
 obtain ⟨t359, A5, H⟩ := Xbi H
 (try dsimp only at H)
 have HC6 := Aside0.mk H
 clear H
 go_enter Try.func4, Try.ntmps4
 go_upto_if 20 with (first | ((with_reducible refine gate_dst (N := 4) rfl ?_); refine Xbox 4 #[.int .i64 a0_0, .int .i64 a0_1, .slice A0_2 l0_2.length c0_2] 24 ?_; intro gb358 hg w7 hbox hb; have BK358 := Aside0.mk (hbox); have GE358 := Xge hg Xi; replace HB := Aside0.mk (below_step Xi hb); clear hb hbox hg; obtain ⟨hcz8_0, hcz8_1, hcz8_2⟩ := Xc3 BK358; obtain ⟨hfz8_0, hfz8_1, hfz8_2⟩ := Xf3 BK358) | ((with_reducible refine gate_callee (f := 10) rfl ?_); refine Xgo 18 Try.func10 #[.agg #[.int .i64 a0_0, .int .i64 a0_1, .slice A0_2 l0_2.length c0_2], .int .i64 1048576] ?_; (with_reducible refine (laws_szDoc.calls k a0_0 a0_1 _ _ l0_2 1048576 t359 _ ?side1 ?side2 A5.out).mono ?_); (case side1 => exact Xc HR0_2); (case side2 => exact HC0_2.out); rintro e w9 ⟨rfl, hb⟩; refine ⟨_, rfl, ?_⟩; replace BK358 := Xbb BK358 hb; replace HB := Aside0.mk (below_step Xi hb); clear hb))
 have H := HC6.out
 clear HC6
 obtain ⟨c10b0, H⟩ | ⟨c10b0, H⟩ := Xit H
 ·(first | rw [c10b0] | (simp only [i64_w, i32_w]; rw [c10b0]) | skip)
  go_wp2
  go_ret
  exact ⟨Xe, Xi⟩
 ·(first | rw [c10b0] | (simp only [i64_w, i32_w]; rw [c10b0]) | skip)
  obtain ⟨t360, A11, H⟩ := Xbi H
  (try dsimp only at H)
  have HC12 := Aside0.mk H
  clear H
  go_upto_if 25 with (first | ((with_reducible refine gate_callee (f := 18) rfl ?_); refine Xgo 23 Try.func18 #[.slice A1 l1.length c1, .int .i64 t359] ?_; (with_reducible refine (laws_szHoldS.calls _ _ l1 t359 t360 _ ?side1 ?side2 A11.out).mono ?_); (case side1 => exact Xc HR1); (case side2 => exact HC1.out); rintro e w' ⟨rfl, ⟨nd, rfl⟩⟩; refine ⟨_, rfl, ?_⟩))
  (try (rw [drewN_self w9]; generalize hq_ : World.drewN w9 _ = w9; have n0_ : Aside0 (w9.heap[gb358]? = some (.cells #[.int .i64 a0_0, .int .i64 a0_1, .slice A0_2 l0_2.length c0_2] 24 (0, 0))) := ⟨by rw [← hq_]; exact BK358.out⟩; have n1_ : Aside0 (Below w.heap.size w w9) := ⟨by rw [← hq_]; exact Xi⟩; clear BK358 HB hq_; have BK358 := n0_; have HB := n1_; clear n0_ n1_))
  have H := HC12.out
  clear HC12
  obtain ⟨c13b0, H⟩ | ⟨c13b0, H⟩ := Xit H
  ·(first | rw [c13b0] | (simp only [i64_w, i32_w]; rw [c13b0]) | skip)
   go_wp2
   go_ret
   exact ⟨Xe, Xi⟩
  ·(first | rw [c13b0] | (simp only [i64_w, i32_w]; rw [c13b0]) | skip)
   replace H := Option.bind_eq_some_iff.mp H
   obtain ⟨⟨t361, t362, t363⟩, A140, H⟩ := H
   (try dsimp only at H)
   have A14 := Aside0.mk A140
   clear A140
   obtain ⟨t366, A15, H⟩ := Xbi H
   (try dsimp only at H)
   replace H := Option.bind_eq_some_iff.mp H
   obtain ⟨⟨t369, t370⟩, A160, H⟩ := H
   (try dsimp only at H)
   have A16 := Aside0.mk A160
   clear A160
   replace H := Option.bind_eq_some_iff.mp H
   obtain ⟨⟨t371, t372, t373⟩, A170, H⟩ := H
   (try dsimp only at H)
   have A17 := Aside0.mk A170
   clear A170
   obtain ⟨t377, A18, H⟩ := Xbi H
   (try dsimp only at H)
   replace H := Option.bind_eq_some_iff.mp H
   obtain ⟨⟨t380, t381⟩, A190, H⟩ := H
   (try dsimp only at H)
   have A19 := Aside0.mk A190
   clear A190
   have HC20 := Aside0.mk H
   clear H
   obtain ⟨hcz21_0, hcz21_1, hcz21_2⟩ := Xc3 BK358
   obtain ⟨hfz21_0, hfz21_1, hfz21_2⟩ := Xf3 BK358
   go_upto_region 12 with (first | ((with_reducible refine gate_callee (f := 13) rfl ?_); refine Xgo 28 Try.func13 #[.agg #[.int .i64 a0_0, .int .i64 a0_1, .slice A0_2 l0_2.length c0_2]] ?_; (with_reducible refine (laws_toDoc.calls k a0_0 a0_1 _ _ l0_2 t361 t362 t363 _ ?side1 ?side2 A14.out).mono ?_); (case side1 => exact Xc HR0_2); (case side2 => exact HC0_2.out); rintro e w22 ⟨v364, rfl, ho0, hb⟩; refine ⟨_, rfl, ?_⟩; have HO365 := Aside0.mk (Kd.S_lower ho0 (below_size Xi)); replace BK358 := Xbb BK358 hb; replace HB := Aside0.mk (below_step Xi hb); clear hb; (try clear ho0)) | ((with_reducible refine gate_callee (f := 20) rfl ?_); refine Xgo 30 Try.func20 #[.slice A1 l1.length c1] ?_; (with_reducible refine (laws_toHoldS.calls k _ _ l1 t366 _ ?side1 ?side2 A15.out).mono ?_); (case side1 => exact Xc HR1); (case side2 => exact HC1.out); rintro e w23 ⟨v367, rfl, ho0, hb⟩; refine ⟨_, rfl, ?_⟩; replace HO365 := Aside0.mk (Kd.S_below (Xq HO365) hb); have HO368 := Aside0.mk (Kd.R_lower ho0 (below_size Xi)); replace BK358 := Xbb BK358 hb; replace HB := Aside0.mk (below_step Xi hb); clear hb; (try clear ho0); obtain ⟨Ao24, co24, eo24⟩ := Kd.S_slice HO365.out; subst eo24; obtain ⟨Ao25, co25, eo25⟩ := Kd.R_slice HO368.out; subst eo25) | ((with_reducible refine gate_callee (f := 19) rfl ?_); refine Xgo 33 Try.func19 #[.agg #[.int .i64 t361, .int .i64 t362, .slice Ao24 t363.length co24], .slice Ao25 t366.length co25, .int .i64 a2, .int .i64 a3] ?_; (with_reducible refine (spec_CoverOf.calls k t361 t362 _ _ t363 _ _ t366 a2 a3 t369 t370 _ ?side1 ?side2 ?side3 ?side4 A16.out).mono ?_); (case side1 => repeat (first | exact (Kd.S_reads' HO365.out).2.2 | (with_reducible first | refine Kd.C_alloc ?_ _ | refine Kd.C_drewN ?_ _ | refine Kd.C_drew ?_))); (case side2 => exact (Kd.S_reads' HO365.out).2.1); (case side3 => repeat (first | exact (Kd.R_reads' HO368.out).2.2 | (with_reducible first | refine Kd.C_alloc ?_ _ | refine Kd.C_drewN ?_ _ | refine Kd.C_drew ?_))); (case side4 => exact (Kd.R_reads' HO368.out).2.1); rintro e w26 ⟨rfl, hb⟩; refine ⟨_, rfl, ?_⟩; replace HO365 := Aside0.mk (Kd.S_below (Xq HO365) hb); replace HO368 := Aside0.mk (Kd.R_below (Xq HO368) hb); replace BK358 := Xbb BK358 hb; replace HB := Aside0.mk (below_step Xi hb); clear hb; obtain ⟨hcz27_0, hcz27_1, hcz27_2⟩ := Xc3 BK358; obtain ⟨hfz27_0, hfz27_1, hfz27_2⟩ := Xf3 BK358) | ((with_reducible refine gate_callee (f := 13) rfl ?_); refine Xgo 37 Try.func13 #[.agg #[.int .i64 a0_0, .int .i64 a0_1, .slice A0_2 l0_2.length c0_2]] ?_; (with_reducible refine (laws_toDoc.calls k a0_0 a0_1 _ _ l0_2 t371 t372 t373 _ ?side1 ?side2 A17.out).mono ?_); (case side1 => exact Xc HR0_2); (case side2 => exact HC0_2.out); rintro e w28 ⟨v374, rfl, ho0, hb⟩; refine ⟨_, rfl, ?_⟩; replace HO368 := Aside0.mk (Kd.R_below (Xq HO368) hb); have HO375 := Aside0.mk (Kd.S_lower (Kd.S_new' ho0 (Kd.S_lt (Xq HO365))) (below_size Xi)); replace HO365 := Aside0.mk (Kd.S_elder' (Xq HO365) (Kd.S_base ho0) hb); replace BK358 := Xbb BK358 hb; replace HB := Aside0.mk (below_step Xi hb); clear hb; (try clear ho0)) | ((with_reducible refine gate_dst (N := 12) rfl ?_); refine Xbox 12 #[.int .i64 0, .int .i64 0, .slice none 0 0] 33 ?_; intro gb376 hg w29 hbox hb; replace HO365 := Aside0.mk (Kd.S_below (Xq HO365) hb); replace HO368 := Aside0.mk (Kd.R_below (Xq HO368) hb); replace HO375 := Aside0.mk (Kd.S_below (Xq HO375) hb); have BK376 := Aside0.mk (hbox); have GE376 := Xge hg Xi; replace HB := Aside0.mk (below_step Xi hb); have NB358_376 := Xnb hg BK358; have NB376_358 := Xns NB358_376; replace BK358 := Xbb BK358 hb; clear hb hbox hg; have hnb30 := NB376_358.out; have hnc30 := NB358_376.out; obtain ⟨hcz31_0, hcz31_1, hcz31_2⟩ := Xc3 BK376; obtain ⟨hfz31_0, hfz31_1, hfz31_2⟩ := Xf3 BK376; obtain ⟨Ao32, co32, eo32⟩ := Kd.S_slice HO375.out; subst eo32) | ((with_reducible refine gate_store (t := 33) (p := 12) rfl ?_); refine store_event (t := 33) (p := 12) (v := ?vo_w33) (w1 := (((w29.setCell ⟨gb376, 0, none⟩ (.int .i64 t371)).setCell ⟨gb376, 1, none⟩ (.int .i64 t372)).setCell ⟨gb376, 2, none⟩ (.slice Ao32 t373.length co32))) ?hg ?ho ?hn ?hr ?_; (case ho => rfl); (case hg => rfl); (case hn => rfl); (case hr => first | (go_simp; done) | (go_simp; rfl)); intro w33 hw; have n0_ : Aside0 (Kd.S k92 92 w33 w.heap.size (fun k_ => some k_ ≠ (.slice Ao32 t373.length co32 : Value).ownBlock) (.slice Ao24 t363.length co24) t363) := ⟨(by rw [hw]; exact (by (with_reducible repeat (first | apply Kd.S_alloc | apply Kd.S_drewN | apply Kd.S_drew)); exact Kd.S_mono (Kd.S_far (p := ⟨gb376, 2, none⟩) (Kd.S_far (p := ⟨gb376, 1, none⟩) (Kd.S_far (p := ⟨gb376, 0, none⟩) (Kd.S_types HO365.out BK376.out (by decide)) (fun _ hk => hk.2) (.int .i64 t371)) (fun _ hk => hk.2) (.int .i64 t372)) (fun _ hk => hk.2) (.slice Ao32 t373.length co32)) (fun _ hk => hk.1.2)))⟩; have n1_ : Aside0 (Kd.R k55 55 w33 w.heap.size (fun _ => True) (.slice Ao25 t366.length co25) t366) := ⟨(by rw [hw]; exact (by (with_reducible repeat (first | apply Kd.R_alloc | apply Kd.R_drewN | apply Kd.R_drew)); exact Kd.R_mono (Kd.R_far (p := ⟨gb376, 2, none⟩) (Kd.R_far (p := ⟨gb376, 1, none⟩) (Kd.R_far (p := ⟨gb376, 0, none⟩) (Kd.R_types HO368.out BK376.out (by decide)) (fun _ hk => hk.2) (.int .i64 t371)) (fun _ hk => hk.2) (.int .i64 t372)) (fun _ hk => hk.2) (.slice Ao32 t373.length co32)) (fun _ hk => trivial)))⟩; have n2_ : Aside0 (Kd.S k92 92 w33 w.heap.size (fun k_ => some k_ ≠ (.slice Ao24 t363.length co24 : Value).ownBlock) (.slice Ao32 t373.length co32) t373) := ⟨(by rw [hw]; exact (by (with_reducible repeat (first | apply Kd.S_alloc | apply Kd.S_drewN | apply Kd.S_drew)); exact Kd.S_mono (Kd.S_far (p := ⟨gb376, 2, none⟩) (Kd.S_far (p := ⟨gb376, 1, none⟩) (Kd.S_far (p := ⟨gb376, 0, none⟩) (Kd.S_types HO375.out BK376.out (by decide)) (fun _ hk => hk.2) (.int .i64 t371)) (fun _ hk => hk.2) (.int .i64 t372)) (fun _ hk => hk.2) (.slice Ao32 t373.length co32)) (fun _ hk => hk.1.2)))⟩; have n3_ : Aside0 (w33.heap[gb358]? = some (.cells #[.int .i64 a0_0, .int .i64 a0_1, .slice A0_2 l0_2.length c0_2] 24 (0, 0))) := ⟨(by rw [hw]; exact (by (with_reducible repeat (first | refine blk_drewN ?_ _ | refine blk_drew ?_ | refine blk_alloc ?_ _)); refine blk_far ?_ NB358_376.out _; (with_reducible repeat (first | refine blk_drewN ?_ _ | refine blk_drew ?_ | refine blk_alloc ?_ _)); refine blk_far ?_ NB358_376.out _; (with_reducible repeat (first | refine blk_drewN ?_ _ | refine blk_drew ?_ | refine blk_alloc ?_ _)); refine blk_far ?_ NB358_376.out _; (with_reducible repeat (first | refine blk_drewN ?_ _ | refine blk_drew ?_ | refine blk_alloc ?_ _)); exact BK358.out))⟩; have n4_ : Aside0 (w33.heap[gb376]? = some (.cells #[.int .i64 t371, .int .i64 t372, .slice Ao32 t373.length co32] 33 (0, 0))) := ⟨(by rw [hw]; exact (by (with_reducible repeat (first | refine blk_drewN ?_ _ | refine blk_drew ?_ | refine blk_alloc ?_ _)); refine blk_put (cs := #[.int .i64 t371, .int .i64 t372, .slice none 0 0]) ?_ 2 _ rfl; (with_reducible repeat (first | refine blk_drewN ?_ _ | refine blk_drew ?_ | refine blk_alloc ?_ _)); refine blk_put (cs := #[.int .i64 t371, .int .i64 0, .slice none 0 0]) ?_ 1 _ rfl; (with_reducible repeat (first | refine blk_drewN ?_ _ | refine blk_drew ?_ | refine blk_alloc ?_ _)); refine blk_put (cs := #[.int .i64 0, .int .i64 0, .slice none 0 0]) ?_ 0 _ rfl; (with_reducible repeat (first | refine blk_drewN ?_ _ | refine blk_drew ?_ | refine blk_alloc ?_ _)); exact BK376.out))⟩; have n5_ : Aside0 (Below w.heap.size w w33) := ⟨(by rw [hw]; exact Xi)⟩; clear hw; clear HO365; clear HO368; clear HO375; clear BK358; clear BK376; clear HB; have HO365 := n0_; have HO368 := n1_; have HO375 := n2_; have BK358 := n3_; have BK376 := n4_; have HB := n5_; clear n0_ n1_ n2_ n3_ n4_ n5_) | ((with_reducible refine gate_callee (f := 20) rfl ?_); refine Xgo 39 Try.func20 #[.slice A1 l1.length c1] ?_; (with_reducible refine (laws_toHoldS.calls k _ _ l1 t377 _ ?side1 ?side2 A18.out).mono ?_); (case side1 => exact Xc HR1); (case side2 => exact HC1.out); rintro e w34 ⟨v378, rfl, ho0, hb⟩; refine ⟨_, rfl, ?_⟩; replace HO365 := Aside0.mk (Kd.S_below (Xq HO365) hb); replace HO375 := Aside0.mk (Kd.S_below (Xq HO375) hb); have HO379 := Aside0.mk (Kd.R_lower (Kd.R_new' ho0 (Kd.R_lt (Xq HO368))) (below_size Xi)); replace HO368 := Aside0.mk (Kd.R_elder' (Xq HO368) (Kd.R_base ho0) hb); replace BK358 := Xbb BK358 hb; replace BK376 := Xbb BK376 hb; replace HB := Aside0.mk (below_step Xi hb); clear hb; (try clear ho0); obtain ⟨hcz35_0, hcz35_1, hcz35_2⟩ := Xc3 BK376; obtain ⟨hfz35_0, hfz35_1, hfz35_2⟩ := Xf3 BK376; obtain ⟨Ao36, co36, eo36⟩ := Kd.R_slice HO379.out; subst eo36) | ((with_reducible refine gate_callee (f := 21) rfl ?_); refine Xgo 45 Try.func21 #[.agg #[.int .i64 t371, .int .i64 t372, .slice Ao32 t373.length co32], .slice Ao36 t377.length co36, .int .i64 a2, .int .i64 a3] ?_; (with_reducible refine (impl_CoverOf.calls k t371 t372 _ _ t373 _ _ t377 a2 a3 t380 t381 _ ?side1 ?side2 ?side3 ?side4 A19.out).mono ?_); (case side1 => repeat (first | exact (Kd.S_reads' HO375.out).2.2 | (with_reducible first | refine Kd.C_alloc ?_ _ | refine Kd.C_drewN ?_ _ | refine Kd.C_drew ?_))); (case side2 => exact (Kd.S_reads' HO375.out).2.1); (case side3 => repeat (first | exact (Kd.R_reads' HO379.out).2.2 | (with_reducible first | refine Kd.C_alloc ?_ _ | refine Kd.C_drewN ?_ _ | refine Kd.C_drew ?_))); (case side4 => exact (Kd.R_reads' HO379.out).2.1); rintro e w37 ⟨rfl, hb⟩; refine ⟨_, rfl, ?_⟩; replace HO365 := Aside0.mk (Kd.S_below (Xq HO365) hb); replace HO368 := Aside0.mk (Kd.R_below (Xq HO368) hb); replace HO375 := Aside0.mk (Kd.S_below (Xq HO375) hb); replace HO379 := Aside0.mk (Kd.R_below (Xq HO379) hb); replace BK358 := Xbb BK358 hb; replace BK376 := Xbb BK376 hb; replace HB := Aside0.mk (below_step Xi hb); clear hb))
   (try simp only [XW.q0, XW.q1, XW.q2])
   go_cut [55] (fun v55 wc => ∃ (kq : Nat) (x55_19 : Bool), v55 = .bool x55_19 ∧ Aside0 (laws_FnExactCoverOf.j0 kq l1 t377 x55_19 a0_0 a0_1 l0_2 t371 t372 t373 = some true) ∧ Aside0 (kq ≤ k) ∧ Aside0 (Kd.R k55 55 wc w.heap.size (fun _ => True) (.slice Ao36 t377.length co36) t377) ∧ Aside0 (Kd.S k92 92 wc w.heap.size (fun _ => True) (.slice Ao32 t373.length co32) t373) ∧ Aside0 (wc.heap[gb358]? = some (.cells #[.int .i64 a0_0, .int .i64 a0_1, (.slice A0_2 l0_2.length c0_2)] 24 (0, 0))) ∧ Aside0 (wc.heap[gb376]? = some (.cells #[.int .i64 t371, .int .i64 t372, (.slice Ao32 t373.length co32)] 33 (0, 0))) ∧ Aside0 (Below w.heap.size w wc))
   case first =>
    have H := HC20.out
    clear HC20
    obtain ⟨c38, H⟩ | ⟨c38, H⟩ := Xiu H
    ·have c38b0 : (t380 == t369) = true := beq_iff_eq.mpr c38
     have c38b1 : (t380 != t369) = false := bne_eq_false_iff_eq.mpr c38
     clear c38
     (first | rw [c38b0] | (simp only [i64_w, i32_w]; rw [c38b0]) | skip)
     have H' := Aside0.mk H
     clear H
     go_wp2
     go_meet
     case rel => exact ⟨_, ((t381 != t370)), Xr, H', Xko, ⟨by (with_reducible repeat (first | apply Kd.R_alloc | apply Kd.R_drewN | apply Kd.R_drew)); exact Kd.R_mono HO379.out (fun _ hk => trivial)⟩, ⟨by (with_reducible repeat (first | apply Kd.S_alloc | apply Kd.S_drewN | apply Kd.S_drew)); exact Kd.S_mono HO375.out (fun _ hk => trivial)⟩, BK358, BK376, ⟨Xi⟩⟩
    ·have c38b0 : (t380 == t369) = false := beq_eq_false_iff_ne.mpr c38
     have c38b1 : (t380 != t369) = true := bne_iff_ne.mpr c38
     (first | rw [c38b0] | (simp only [i64_w, i32_w]; rw [c38b0]) | skip)
     have H' := Aside0.mk H
     clear H
     go_wp2
     go_meet
     case rel => exact ⟨_, (true), Xr, H', Xko, ⟨by (with_reducible repeat (first | apply Kd.R_alloc | apply Kd.R_drewN | apply Kd.R_drew)); exact Kd.R_mono HO379.out (fun _ hk => trivial)⟩, ⟨by (with_reducible repeat (first | apply Kd.S_alloc | apply Kd.S_drewN | apply Kd.S_drew)); exact Kd.S_mono HO375.out (fun _ hk => trivial)⟩, BK358, BK376, ⟨Xi⟩⟩
   case rest =>
    clear HC20
    (try clear c1); (try clear c10); (try clear c10b0); (try clear c13); (try clear c13b0); (try clear hcz21_0); (try clear hcz21_1); (try clear hcz21_2); (try clear hcz27_0); (try clear hcz27_1); (try clear hcz27_2); (try clear hcz31_0); (try clear hcz31_1); (try clear hcz31_2); (try clear hcz35_0); (try clear hcz35_1); (try clear hcz35_2); (try clear hcz8_0); (try clear hcz8_1); (try clear hcz8_2); (try clear hfz21_0); (try clear hfz21_1); (try clear hfz21_2); (try clear hfz27_0); (try clear hfz27_1); (try clear hfz27_2); (try clear hfz31_0); (try clear hfz31_1); (try clear hfz31_2); (try clear hfz35_0); (try clear hfz35_1); (try clear hfz35_2); (try clear hfz8_0); (try clear hfz8_1); (try clear hfz8_2)
    obtain ⟨kq, x55_19, rfl, HA, HJ19, HO_13, HO_377002, BK358, BK376, HB⟩ := hcut
    cases kq with
    | zero => cases HA.out
    | succ kj19 =>
     have H := HA.out
     clear HA
     simp only [laws_FnExactCoverOf.j0] at H
     by_cases c39 : x55_19 = true
     ·subst c39
      (first | rw [if_pos rfl] at H | skip)
      cases H
     ·replace c39 := Bool.eq_false_iff.mpr c39
      subst c39
      (first | rw [if_neg (show ¬ (false = true) by decide)] at H | skip)
      replace H := Option.bind_eq_some_iff.mp H
      obtain ⟨⟨t382, t383, t384⟩, A400, H⟩ := H
      (try dsimp only at H)
      have A40 := Aside0.mk A400
      clear A400
      obtain ⟨t387, A41, H⟩ := Xbi H
      (try dsimp only at H)
      have HC42 := Aside0.mk H
      clear H
      try go_wp2_with (fail)
      replace HO_13 := Aside0.mk (Kd.R_drew HO_13.out)
      replace HO_377002 := Aside0.mk (Kd.S_drew HO_377002.out)
      replace BK358 := Aside0.mk (blk_drew BK358.out)
      replace BK376 := Aside0.mk (blk_drew BK376.out)
      replace HB := Aside0.mk (below_drew1 HB.out)
      refine start_ (n := 5) (S := fun w' => w'.cell? ⟨gb376, 0, none⟩ = some (.int .i64 t371) ∧ w'.cell? ⟨gb376, 1, none⟩ = some (.int .i64 t372) ∧ w'.cell? ⟨gb376, 2, none⟩ = some (.slice Ao32 t373.length co32) ∧ w'.cell? ⟨gb358, 0, none⟩ = some (.int .i64 a0_0) ∧ w'.cell? ⟨gb358, 1, none⟩ = some (.int .i64 a0_1) ∧ w'.cell? ⟨gb358, 2, none⟩ = some (.slice A0_2 l0_2.length c0_2)) (ds := []) #[false, false, false, false, false] (by kernel_rfl) rfl rfl ⟨(blk_cell BK376.out 0).trans rfl, (blk_cell BK376.out 1).trans rfl, (blk_cell BK376.out 2).trans rfl, (blk_cell BK358.out 0).trans rfl, (blk_cell BK358.out 1).trans rfl, (blk_cell BK358.out 2).trans rfl⟩ (fun hHeld => ?_)
      generalize wc.drew = w43 at HO_13 HO_377002 BK358 BK376 HB hHeld ⊢
      refine take_ (i := 0) (N := some 56) (v := ?_) (a' := ?_) #[true, false, false, false, false] rfl rfl (by kernel_rfl) (fun _ _ _ h => h) (Or.inl ⟨by rfl, ?_⟩) hHeld ?_ ?_
      rotate_left
      ·rintro w' ⟨s0, s1, s2, s3, s4, s5⟩
       go_simp
       with_reducible rfl
      rotate_left
      ·simp only [XW.q0, XW.q1, XW.q2, i64_w, i32_w]
       rfl
      refine take_ (i := 1) (N := some 57) (v := ?_) (a' := ?_) #[true, true, false, false, false] rfl rfl (by kernel_rfl) (fun _ _ _ h => h) (Or.inl ⟨by rfl, ?_⟩) hHeld ?_ ?_
      rotate_left
      ·rintro w' ⟨s0, s1, s2, s3, s4, s5⟩
       go_simp
       with_reducible rfl
      rotate_left
      ·simp only [XW.q0, XW.q1, XW.q2, i64_w, i32_w]
       rfl
      refine one_ (i := 2) (N := some 58) #[true, true, true, false, false] rfl rfl (by kernel_rfl) (by decide) (fun K hK => ?_)
      refine goes_ Try.func13 (by kernel_rfl) rfl #[.agg #[.int .i64 a0_0, .int .i64 a0_1, .slice A0_2 l0_2.length c0_2]] (by rfl) rfl rfl (by (try simp only [List.map_toArray, List.map_cons, List.map_nil]); first | done | rfl | (simp only [List.length_drop, List.length_take]; rfl)) ?_
      with_reducible refine (laws_toDoc.calls kj19 a0_0 a0_1 _ _ l0_2 t382 t383 t384 _ ?side1 ?side2 A40.out).mono ?_
      (case side1 => exact Xc HR0_2)
      (case side2 => exact HC0_2.out)
      rintro e w44 ⟨v385, rfl, ho0, hb⟩
      refine ⟨_, rfl, ?_⟩
      replace HO_13 := Aside0.mk (Kd.R_below (Xq HO_13) hb)
      have HO386 := Aside0.mk (Kd.S_lower (Kd.S_new' ho0 (Kd.S_lt (Xq HO_377002))) (below_size Xi))
      replace HO_377002 := Aside0.mk (Kd.S_elder' (Xq HO_377002) (Kd.S_base ho0) hb)
      replace BK358 := Xbb BK358 hb
      replace BK376 := Xbb BK376 hb
      replace HB := Aside0.mk (below_step Xi hb)
      (try clear hb)
      (try clear hb2)
      (try clear hk)
      (try clear hi)
      (try clear ho0)
      obtain ⟨Ao45, co45, eo45⟩ := Kd.S_slice HO386.out
      (first | subst eo45 | (injection eo45 with f1_ f2_ f3_; have f4_ := f1_.symm; have f5_ := f3_.symm; clear f1_ f2_ f3_; subst f4_; subst f5_))
      refine hK.out _ _ ⟨(blk_cell BK376.out 0).trans rfl, (blk_cell BK376.out 1).trans rfl, (blk_cell BK376.out 2).trans rfl, (blk_cell BK358.out 0).trans rfl, (blk_cell BK358.out 1).trans rfl, (blk_cell BK358.out 2).trans rfl⟩ (fun hHeld => ?_)
      clear hK K
      refine Xno ?_
      refine one_ (i := 3) (N := some 59) #[true, true, true, true, false] rfl rfl (by kernel_rfl) (by decide) (fun K hK => ?_)
      refine goes_ Try.func16 (by kernel_rfl) rfl #[.agg #[.int .i64 t371, .int .i64 t372, .slice Ao32 t373.length co32], .agg #[.int .i64 t382, .int .i64 t383, .slice Ao45 t384.length co45]] (by rfl) rfl rfl (by (try simp only [List.map_toArray, List.map_cons, List.map_nil]); first | done | rfl | (simp only [List.length_drop, List.length_take]; rfl)) ?_
      with_reducible refine (laws_eqDoc.calls kj19 t371 t372 _ _ t373 t382 t383 _ _ t384 t387 _ ?side1 ?side2 ?side3 ?side4 A41.out).mono ?_
      (case side1 => repeat (first | exact (Kd.S_reads' HO_377002.out).2.2 | (with_reducible first | refine Kd.C_alloc ?_ _ | refine Kd.C_drewN ?_ _ | refine Kd.C_drew ?_)))
      (case side2 => exact (Kd.S_reads' HO_377002.out).2.1)
      (case side3 => repeat (first | exact (Kd.S_reads' HO386.out).2.2 | (with_reducible first | refine Kd.C_alloc ?_ _ | refine Kd.C_drewN ?_ _ | refine Kd.C_drew ?_)))
      (case side4 => exact (Kd.S_reads' HO386.out).2.1)
      rintro e w46 ⟨rfl, hb⟩
      refine ⟨_, rfl, ?_⟩
      replace HO_13 := Aside0.mk (Kd.R_below (Xq HO_13) hb)
      replace HO_377002 := Aside0.mk (Kd.S_below (Xq HO_377002) hb)
      replace HO386 := Aside0.mk (Kd.S_below (Xq HO386) hb)
      replace BK358 := Xbb BK358 hb
      replace BK376 := Xbb BK376 hb
      replace HB := Aside0.mk (below_step Xi hb)
      (try clear hb)
      (try clear hb2)
      (try clear hk)
      (try clear hi)
      refine hK.out _ _ ⟨(blk_cell BK376.out 0).trans rfl, (blk_cell BK376.out 1).trans rfl, (blk_cell BK376.out 2).trans rfl, (blk_cell BK358.out 0).trans rfl, (blk_cell BK358.out 1).trans rfl, (blk_cell BK358.out 2).trans rfl⟩ (fun hHeld => ?_)
      clear hK K
      refine Xno ?_
      refine pure_ (i := 4) (N := some 60) (v := ?_) (a' := ?_) #[true, true, true, true, true] rfl rfl (by kernel_rfl) (fun _ _ _ h => h) (Or.inl ⟨by rfl, ?_⟩) ?_ ?_
      rotate_left
      ·intro w'
       go_simp
       with_reducible rfl
      rotate_left
      ·simp only [XW.q0, XW.q1, XW.q2, i64_w, i32_w]
       rfl
      refine done_ (by kernel_rfl) ?_
      go_upto_if 60 with (fail)
      have H := HC42.out
      clear HC42
      by_cases c47 : t387 = true
      ·subst c47
       (first | rw [if_pos rfl] at H | skip)
       obtain ⟨t388, A48, H⟩ := Xbi H
       (try dsimp only at H)
       obtain ⟨t391, A49, H⟩ := Xbi H
       (try dsimp only at H)
       have HC50 := Aside0.mk H
       clear H
       go_upto_if 65 with (first | ((with_reducible refine gate_callee (f := 20) rfl ?_); refine Xgo 63 Try.func20 #[.slice A1 l1.length c1] ?_; (with_reducible refine (laws_toHoldS.calls kj19 _ _ l1 t388 _ ?side1 ?side2 A48.out).mono ?_); (case side1 => exact Xc HR1); (case side2 => exact HC1.out); rintro e w51 ⟨v389, rfl, ho0, hb⟩; refine ⟨_, rfl, ?_⟩; replace HO_377002 := Aside0.mk (Kd.S_below (Xq HO_377002) hb); replace HO386 := Aside0.mk (Kd.S_below (Xq HO386) hb); have HO390 := Aside0.mk (Kd.R_lower (Kd.R_new' ho0 (Kd.R_lt (Xq HO_13))) (below_size Xi)); replace HO_13 := Aside0.mk (Kd.R_elder' (Xq HO_13) (Kd.R_base ho0) hb); replace BK358 := Xbb BK358 hb; replace BK376 := Xbb BK376 hb; replace HB := Aside0.mk (below_step Xi hb); clear hb; (try clear ho0); obtain ⟨Ao52, co52, eo52⟩ := Kd.R_slice HO390.out; subst eo52) | ((with_reducible refine gate_callee (f := 22) rfl ?_); refine Xgo 64 Try.func22 #[.slice Ao36 t377.length co36, .slice Ao52 t388.length co52] ?_; (with_reducible refine (laws_eqHoldS.calls kj19 _ _ t377 _ _ t388 t391 _ ?side1 ?side2 ?side3 ?side4 A49.out).mono ?_); (case side1 => repeat (first | exact (Kd.R_reads' HO_13.out).2.2 | (with_reducible first | refine Kd.C_alloc ?_ _ | refine Kd.C_drewN ?_ _ | refine Kd.C_drew ?_))); (case side2 => exact (Kd.R_reads' HO_13.out).2.1); (case side3 => repeat (first | exact (Kd.R_reads' HO390.out).2.2 | (with_reducible first | refine Kd.C_alloc ?_ _ | refine Kd.C_drewN ?_ _ | refine Kd.C_drew ?_))); (case side4 => exact (Kd.R_reads' HO390.out).2.1); rintro e w53 ⟨rfl, hb⟩; refine ⟨_, rfl, ?_⟩; replace HO_13 := Aside0.mk (Kd.R_below (Xq HO_13) hb); replace HO_377002 := Aside0.mk (Kd.S_below (Xq HO_377002) hb); replace HO386 := Aside0.mk (Kd.S_below (Xq HO386) hb); replace HO390 := Aside0.mk (Kd.R_below (Xq HO390) hb); replace BK358 := Xbb BK358 hb; replace BK376 := Xbb BK376 hb; replace HB := Aside0.mk (below_step Xi hb); clear hb))
       have H := HC50.out
       clear HC50
       by_cases c54 : t391 = true
       ·subst c54
        (first | rw [if_pos rfl] at H | skip)
        go_wp2
        go_ret
        exact ⟨Xe, Xi⟩
       ·replace c54 := Bool.eq_false_iff.mpr c54
        subst c54
        (first | rw [if_neg (show ¬ (false = true) by decide)] at H | skip)
        cases H
      ·replace c47 := Bool.eq_false_iff.mpr c47
       subst c47
       (first | rw [if_neg (show ¬ (false = true) by decide)] at H | skip)
       cases H

end Go.Proofs.Ytnanfenogmpemaa.XA
