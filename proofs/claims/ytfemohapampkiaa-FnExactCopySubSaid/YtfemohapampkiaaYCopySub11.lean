/- Contracts of the program's functions: each Go function that is named below comes to what its Lean function says. Written by xprint.py (a program of this session's, over the kit's print). Conditions: each contract's own premises. -/
import Derived.Test.YtfemohapampkiaaYCopySub0
import Derived.Test.YtfemohapampkiaaYCopySub2
import Derived.Test.YtfemohapampkiaaYCopySub10
namespace Go.Proofs.Ytfemohapampkiaa.XA
open Go.RowKit Go.Proofs.YtfemohapampkiaaW.PrintWords Go.Proofs.YtfemohapampkiaaW.PrintLast Go.Proofs.YtfemohapampkiaaW.PrintMore XW
attribute [local go_sem] max2_int min2_int max_two min_two max_three min_three max_four min_four   -- for this text's walks alone
set_option linter.unusedVariables false
set_option linter.unusedSimpArgs false

/-! ### laws_heldNodeS: function 75 -/
def laws_heldNodeS.l0 : Nat → List (S88) → Int → Int → Option (Int)
 | 0, _, _, _ => none
 | k + 1, x0, x1, x5 => if x5 < (x0.length : Int) then (if 0 ≤ x5 then (if ((rd_T88 x0 x5).f0) = x1 then (if ((rd_T88 x0 x5).f1) = (wrap64 (x1 + 1)) then (if ((rd_T88 x0 x5).f2) = (wrap64 ((wrap64 (x1 + 1)) + 1)) then ((laws_markText.f k (wrap64 ((wrap64 ((wrap64 (x1 + 1)) + 1)) + 1))).bind fun t349 => (if ((rd_T88 x0 x5).f3).toList = t349.toList then ((laws_heldIntS.f k ((rd_T88 x0 x5).f4) (wrap64 ((wrap64 ((wrap64 ((wrap64 (x1 + 1)) + 1)) + 1)) + 1))).bind fun t351 => (if t351 < 0 then (some (-1)) else (laws_heldNodeS.l0 k x0 t351 (wrap64 (x5 + 1))))) else (some (-1)))) else (some (-1))) else (some (-1))) else (some (-1))) else (none)) else (some x1)
def laws_heldNodeS.f (k : Nat) (l0 : List (S88)) (a1 : Int) : Option (Int) := laws_heldNodeS.l0 k l0 a1 0
def laws_heldNodeS.T13 : Bool × List (List Nat × List Nat) := (true, [([], []), ([], []), ([0, 1], [0, 1]), ([2], [2]), ([3], [3]), ([], []), ([5], [5]), ([4, 6], [4, 6])])
def laws_heldNodeS.B13 : List Nat := [0, 0, 3, 7, 15, 0, 32, 127]
theorem laws_heldNodeS.tab13 : rtab .any (opsOf Try.f75 13) = laws_heldNodeS.T13 := by kernel_rfl
theorem laws_heldNodeS.bits13 : waitsOk laws_heldNodeS.T13.2 laws_heldNodeS.B13 = true := by kernel_rfl
set_option maxHeartbeats 8000000 in
set_option maxRecDepth 100000 in
theorem laws_heldNodeS.calls (k : Nat) (A0 : Option Addr) (c0 : Nat) (l0 : List (S88)) (a1 : Int) (r : Int) (w : World) (hr0 : Kd.C k88 w A0 l0.length l0) (hc0 : l0.length ≤ c0) (h : laws_heldNodeS.f k l0 a1 = some r) :
  Calls Try.prog 75 #[.slice A0 l0.length c0, .int .i64 a1] w fun e w' => e = .returned (.int .i64 r) ∧ Below w.heap.size w w' := by
 have HR0 := Aside0.mk hr0
 have HC0 := Aside0.mk hc0
 clear hr0 hc0
 have HB := Aside0.mk (Below.refl w.heap.size w)
 have H : (laws_heldNodeS.l0 k l0 a1 0) = some r := h
 clear h
 have H' := Aside0.mk H
 clear H
 go_enter Try.func75, Try.ntmps75
 go_wp2
 go_loopg [1, 5] k (fun kq v1 v5 w' => ∃ (x1_1 : Int) (x5_1 : Int), v1 = .int .i64 x1_1 ∧ v5 = .int .i64 x5_1 ∧ Aside0 (laws_heldNodeS.l0 kq l0 x1_1 x5_1 = some r) ∧ Aside0 (kq ≤ k) ∧ Aside0 (Below w.heap.size w w'))
 case atStart => exact ⟨(a1), (0), Xr, Xr, H', Xkr, ⟨Xi⟩⟩
 case round =>
  clear H'
  obtain ⟨x1_1, x5_1, rfl, rfl, HA, HK1, HB⟩ := hrel
  cases gk with
  | zero => cases HA.out
  | succ k1 =>
   have H := HA.out
   clear HA
   simp only [laws_heldNodeS.l0] at H
   obtain ⟨c3b0, H⟩ | ⟨c3b0, H⟩ := Xit H
   ·obtain ⟨c4b0, H⟩ := Xid H
    obtain ⟨c5, H⟩ | ⟨c5, H⟩ := Xiu H
    ·have c5b0 : (((rd_T88 l0 x5_1).f0) == x1_1) = true := beq_iff_eq.mpr c5
     have c5b1 : (((rd_T88 l0 x5_1).f0) != x1_1) = false := bne_eq_false_iff_eq.mpr c5
     clear c5
     obtain ⟨c6, H⟩ | ⟨c6, H⟩ := Xiu H
     ·have c6b0 : (((rd_T88 l0 x5_1).f1) == (wrap64 (x1_1 + 1))) = true := beq_iff_eq.mpr c6
      have c6b1 : (((rd_T88 l0 x5_1).f1) != (wrap64 (x1_1 + 1))) = false := bne_eq_false_iff_eq.mpr c6
      clear c6
      obtain ⟨c7, H⟩ | ⟨c7, H⟩ := Xiu H
      ·have c7b0 : (((rd_T88 l0 x5_1).f2) == (wrap64 ((wrap64 (x1_1 + 1)) + 1))) = true := beq_iff_eq.mpr c7
       have c7b1 : (((rd_T88 l0 x5_1).f2) != (wrap64 ((wrap64 (x1_1 + 1)) + 1))) = false := bne_eq_false_iff_eq.mpr c7
       clear c7
       obtain ⟨t349, A8, H⟩ := Xbi H
       (try dsimp only at H)
       have HC9 := Aside0.mk H
       clear H
       obtain ⟨ad345, A345_4, c345_4, e345, p345, q345, hx345_0, hx345_1, hx345_2, hx345_3, hx345_4, HC345_4, HR345_4⟩ := at_B88 HR0 x5_1 Xa Xa HB
       cases e345
       obtain ⟨ad346, A346_4, c346_4, e346, p346, q346, hx346_0, hx346_1, hx346_2, hx346_3, hx346_4, HC346_4, HR346_4⟩ := at_B88 HR0 x5_1 Xa Xa HB
       obtain rfl : ad345 = ad346 := (by injection e346)
       have ea_ := Option.some.inj (hx345_4.symm.trans hx346_4)
       injection ea_ with ea_ en_ ec_
       subst ea_
       subst ec_
       clear en_
       obtain ⟨ad347, A347_4, c347_4, e347, p347, q347, hx347_0, hx347_1, hx347_2, hx347_3, hx347_4, HC347_4, HR347_4⟩ := at_B88 HR0 x5_1 Xa Xa HB
       obtain rfl : ad345 = ad347 := (by injection e347)
       have ea_ := Option.some.inj (hx345_4.symm.trans hx347_4)
       injection ea_ with ea_ en_ ec_
       subst ea_
       subst ec_
       clear en_
       try go_wp2_with (fail)
       replace HB := Aside0.mk (below_drew1 HB.out)
       have p348 : 0 ≤ (x5_1 : Int) := of_decide_eq_true Xa
       have q348 : x5_1 < (l0.length : Int) := of_decide_eq_true Xa
       obtain ⟨ad348, A348_4, c348_4, e348, hx348_0, hx348_1, hx348_2, hx348_3, hx348_4, hl348_4, hi348_4⟩ := at_T88 HR0.out x5_1 p348 q348
       have hw348_4 := hx348_4
       have hw348_3 := hx348_3
       have hw348_2 := hx348_2
       have hw348_1 := hx348_1
       have hw348_0 := hx348_0
       obtain rfl : ad345 = ad348 := (by injection e348)
       replace hx348_0 := Xm HB hx348_0
       replace hx348_1 := Xm HB hx348_1
       replace hx348_2 := Xm HB hx348_2
       replace hx348_3 := Xm HB hx348_3
       replace hx348_4 := Xm HB hx348_4
       have HR348_4 := Aside0.mk hi348_4
       have HC348_4 := Aside0.mk hl348_4
       clear hi348_4 hl348_4
       replace p348 := eq_true p348
       replace q348 := eq_true q348
       refine start_ (n := 8) (S := fun w' => w'.cell? (ad345.add ((x5_1).toNat * 5)) = some (.int .i64 ((rd_T88 l0 x5_1).f0)) ∧ w'.cell? ⟨(ad345.add ((x5_1).toNat * 5)).block, (ad345.add ((x5_1).toNat * 5)).off + 1, none⟩ = some (.int .i64 ((rd_T88 l0 x5_1).f1)) ∧ w'.cell? ⟨(ad345.add ((x5_1).toNat * 5)).block, (ad345.add ((x5_1).toNat * 5)).off + 2, none⟩ = some (.int .i64 ((rd_T88 l0 x5_1).f2)) ∧ w'.cell? ⟨(ad345.add ((x5_1).toNat * 5)).block, (ad345.add ((x5_1).toNat * 5)).off + 3, none⟩ = some (.string ((rd_T88 l0 x5_1).f3)) ∧ w'.cell? ⟨(ad345.add ((x5_1).toNat * 5)).block, (ad345.add ((x5_1).toNat * 5)).off + 4, none⟩ = some (.slice A348_4 ((rd_T88 l0 x5_1).f4).length c348_4)) (ds := []) #[false, false, false, false, false, false, false, false] (by kernel_rfl) rfl rfl ⟨Xn hw348_0, Xn hw348_1, Xn hw348_2, Xn hw348_3, Xn hw348_4⟩ (fun hHeld => ?_); refine with_tabW laws_heldNodeS.tab13 laws_heldNodeS.bits13 (fun HT_ HW_ => ?_)
       generalize wr.drew = w10 at HB HR348_4 hx348_0 hx348_1 hx348_2 hx348_3 hx348_4 hHeld ⊢
       refine Xpu 0 39 (XW.bs 8 1) HT_.out ?_
       refine Xpu 1 40 (XW.bs 8 3) HT_.out ?_
       refine Xpu 2 41 (XW.bs 8 7) HT_.out ?_
       refine Xpu 3 42 (XW.bs 8 15) HT_.out ?_
       refine Xpu 5 44 (XW.bs 8 47) HT_.out ?_
       refine Xta 4 43 (XW.bs 8 63) HT_.out HW_.out hHeld ?_
       refine one_ (i := 6) (N := some 45) (XW.bs 8 127) rfl rfl (one_of HT_.out (by kernel_rfl)) (by decide) (fun K hK => ?_)
       refine goes_ Try.func127 (by kernel_rfl) rfl #[.int .i64 (wrap64 ((wrap64 ((wrap64 (x1_1 + 1)) + 1)) + 1))] (by rfl) rfl rfl (by (try simp only [List.map_toArray, List.map_cons, List.map_nil]); first | done | rfl | (simp only [List.length_drop, List.length_take]; rfl)) ?_
       with_reducible refine (laws_markText.calls k1 (wrap64 ((wrap64 ((wrap64 (x1_1 + 1)) + 1)) + 1)) t349 _ A8.out).mono ?_
       rintro e w11 ⟨rfl, hb⟩
       refine ⟨_, rfl, ?_⟩
       replace HB := Aside0.mk (below_step Xi hb)
       (try clear hb)
       (try clear hb2)
       (try clear hk)
       (try clear hi)
       refine hK.out _ _ ⟨Xn hw348_0, Xn hw348_1, Xn hw348_2, Xn hw348_3, Xn hw348_4⟩ (fun hHeld => ?_)
       clear hK K
       refine Xno ?_
       refine Xpu 7 46 (XW.bs 8 255) HT_.out ?_
       refine done_ (done_of HT_.out (by kernel_rfl)) ?_
       go_upto_if 46 with (fail)
       have H := HC9.out
       clear HC9
       obtain ⟨c12, H⟩ | ⟨c12, H⟩ := Xiu H
       ·have c12b0 : (((rd_T88 l0 x5_1).f3).toList == t349.toList) = true := beq_iff_eq.mpr c12
        have c12b1 : (((rd_T88 l0 x5_1).f3).toList != t349.toList) = false := bne_eq_false_iff_eq.mpr c12
        clear c12
        (first | rw [c12b0] | (simp only [i64_w, i32_w]; rw [c12b0]) | skip)
        obtain ⟨t351, A13, H⟩ := Xbi H
        (try dsimp only at H)
        have HC14 := Aside0.mk H
        clear H
        obtain ⟨ad350, A350_4, c350_4, e350, p350, q350, hx350_0, hx350_1, hx350_2, hx350_3, hx350_4, HC350_4, HR350_4⟩ := at_B88 HR0 x5_1 Xa Xa HB
        obtain rfl : ad345 = ad350 := (by injection e350)
        have ea_ := Option.some.inj (hx350_4.symm.trans (Xm HB hw348_4))
        injection ea_ with ea_ en_ ec_
        subst ea_
        subst ec_
        clear en_
        go_upto_if 57 with (first | ((with_reducible refine gate_callee (f := 25) rfl ?_); refine Xgo 55 Try.func25 #[.slice A350_4 ((rd_T88 l0 x5_1).f4).length c350_4, .int .i64 (wrap64 ((wrap64 ((wrap64 ((wrap64 (x1_1 + 1)) + 1)) + 1)) + 1))] ?_; (with_reducible refine (laws_heldIntS.calls k1 _ _ ((rd_T88 l0 x5_1).f4) (wrap64 ((wrap64 ((wrap64 ((wrap64 (x1_1 + 1)) + 1)) + 1)) + 1)) t351 _ ?side1 ?side2 A13.out).mono ?_); (case side1 => exact Xc HR350_4); (case side2 => exact HC350_4.out); rintro e w' ⟨rfl, ⟨nd, rfl⟩⟩; refine ⟨_, rfl, ?_⟩))
        (try (rw [drewN_self w11]; generalize hq_ : World.drewN w11 _ = w11; have n0_ : Aside0 (Below w.heap.size w w11) := ⟨by rw [← hq_]; exact Xi⟩; clear HB hq_; have HB := n0_; clear n0_))
        have H := HC14.out
        clear HC14
        obtain ⟨c15b0, H⟩ | ⟨c15b0, H⟩ := Xit H
        ·(first | rw [c15b0] | (simp only [i64_w, i32_w]; rw [c15b0]) | skip)
         obtain rfl := Option.some.inj H
         go_wp2
         go_ret
         exact ⟨Xe, Xi⟩
        ·(first | rw [c15b0] | (simp only [i64_w, i32_w]; rw [c15b0]) | skip)
         have H' := Aside0.mk H
         clear H
         go_wp2
         go_roundg k1
         case measure => have := HK1.out; omega
         case rel => exact ⟨(t351), (wrap64 (x5_1 + 1)), Xr, Xr, H', Xk1, ⟨Xi⟩⟩
       ·have c12b0 : (((rd_T88 l0 x5_1).f3).toList == t349.toList) = false := beq_eq_false_iff_ne.mpr c12
        have c12b1 : (((rd_T88 l0 x5_1).f3).toList != t349.toList) = true := bne_iff_ne.mpr c12
        (first | rw [c12b0] | (simp only [i64_w, i32_w]; rw [c12b0]) | skip)
        obtain rfl := Option.some.inj H
        go_wp2
        go_ret
        exact ⟨Xe, Xi⟩
      ·have c7b0 : (((rd_T88 l0 x5_1).f2) == (wrap64 ((wrap64 (x1_1 + 1)) + 1))) = false := beq_eq_false_iff_ne.mpr c7
       have c7b1 : (((rd_T88 l0 x5_1).f2) != (wrap64 ((wrap64 (x1_1 + 1)) + 1))) = true := bne_iff_ne.mpr c7
       obtain rfl := Option.some.inj H
       obtain ⟨ad345, A345_4, c345_4, e345, p345, q345, hx345_0, hx345_1, hx345_2, hx345_3, hx345_4, HC345_4, HR345_4⟩ := at_B88 HR0 x5_1 Xa Xa HB
       cases e345
       obtain ⟨ad346, A346_4, c346_4, e346, p346, q346, hx346_0, hx346_1, hx346_2, hx346_3, hx346_4, HC346_4, HR346_4⟩ := at_B88 HR0 x5_1 Xa Xa HB
       obtain rfl : ad345 = ad346 := (by injection e346)
       have ea_ := Option.some.inj (hx345_4.symm.trans hx346_4)
       injection ea_ with ea_ en_ ec_
       subst ea_
       subst ec_
       clear en_
       obtain ⟨ad347, A347_4, c347_4, e347, p347, q347, hx347_0, hx347_1, hx347_2, hx347_3, hx347_4, HC347_4, HR347_4⟩ := at_B88 HR0 x5_1 Xa Xa HB
       obtain rfl : ad345 = ad347 := (by injection e347)
       have ea_ := Option.some.inj (hx345_4.symm.trans hx347_4)
       injection ea_ with ea_ en_ ec_
       subst ea_
       subst ec_
       clear en_
       go_wp2
       go_ret
       exact ⟨Xe, Xi⟩
     ·have c6b0 : (((rd_T88 l0 x5_1).f1) == (wrap64 (x1_1 + 1))) = false := beq_eq_false_iff_ne.mpr c6
      have c6b1 : (((rd_T88 l0 x5_1).f1) != (wrap64 (x1_1 + 1))) = true := bne_iff_ne.mpr c6
      obtain rfl := Option.some.inj H
      obtain ⟨ad345, A345_4, c345_4, e345, p345, q345, hx345_0, hx345_1, hx345_2, hx345_3, hx345_4, HC345_4, HR345_4⟩ := at_B88 HR0 x5_1 Xa Xa HB
      cases e345
      obtain ⟨ad346, A346_4, c346_4, e346, p346, q346, hx346_0, hx346_1, hx346_2, hx346_3, hx346_4, HC346_4, HR346_4⟩ := at_B88 HR0 x5_1 Xa Xa HB
      obtain rfl : ad345 = ad346 := (by injection e346)
      have ea_ := Option.some.inj (hx345_4.symm.trans hx346_4)
      injection ea_ with ea_ en_ ec_
      subst ea_
      subst ec_
      clear en_
      go_wp2
      go_ret
      exact ⟨Xe, Xi⟩
    ·have c5b0 : (((rd_T88 l0 x5_1).f0) == x1_1) = false := beq_eq_false_iff_ne.mpr c5
     have c5b1 : (((rd_T88 l0 x5_1).f0) != x1_1) = true := bne_iff_ne.mpr c5
     obtain rfl := Option.some.inj H
     obtain ⟨ad345, A345_4, c345_4, e345, p345, q345, hx345_0, hx345_1, hx345_2, hx345_3, hx345_4, HC345_4, HR345_4⟩ := at_B88 HR0 x5_1 Xa Xa HB
     cases e345
     go_wp2
     go_ret
     exact ⟨Xe, Xi⟩
   ·obtain rfl := Option.some.inj H
    go_wp2
    go_ret
    exact ⟨Xe, Xi⟩

/-! ### laws_heldDoc: function 28 -/
def laws_heldDoc.f (k : Nat) (a0_0 : Int) (a0_1 : Int) (l0_2 : List (S88)) (a1 : Int) : Option (Int) := (laws_heldNodeS.f k l0_2 a1).bind fun t353 => (if t353 < 0 then (some (-1)) else (some t353))
set_option maxHeartbeats 8000000 in
set_option maxRecDepth 100000 in
theorem laws_heldDoc.calls (k : Nat) (a0_0 : Int) (a0_1 : Int) (A0_2 : Option Addr) (c0_2 : Nat) (l0_2 : List (S88)) (a1 : Int) (r : Int) (w : World) (hr0_2 : Kd.C k88 w A0_2 l0_2.length l0_2) (hc0_2 : l0_2.length ≤ c0_2) (h : laws_heldDoc.f k a0_0 a0_1 l0_2 a1 = some r) :
  Calls Try.prog 28 #[.agg #[.int .i64 a0_0, .int .i64 a0_1, .slice A0_2 l0_2.length c0_2], .int .i64 a1] w fun e w' => e = .returned (.int .i64 r) ∧ Below w.heap.size w w' := by
 have hu29 := Try.underlying29
 have HR0_2 := Aside0.mk hr0_2
 have HC0_2 := Aside0.mk hc0_2
 clear hr0_2 hc0_2
 have HB := Aside0.mk (Below.refl w.heap.size w)
 have H : ((laws_heldNodeS.f k l0_2 a1).bind fun t353 => (if t353 < 0 then (some (-1)) else (some t353))) = some r := h
 clear h
 obtain ⟨t353, A3, H⟩ := Xbi H
 (try dsimp only at H)
 have HC4 := Aside0.mk H
 clear H
 go_enter Try.func28, Try.ntmps28
 go_upto_if 10 with (first | ((with_reducible refine gate_dst (N := 2) rfl ?_); refine Xbox 2 #[.int .i64 a0_0, .int .i64 a0_1, .slice A0_2 l0_2.length c0_2] 29 ?_; intro gb352 hg w5 hbox hb; have BK352 := Aside0.mk (hbox); have GE352 := Xge hg Xi; replace HB := Aside0.mk (below_step Xi hb); clear hb hbox hg; obtain ⟨hcz6_0, hcz6_1, hcz6_2⟩ := Xc3 BK352) | ((with_reducible refine gate_callee (f := 75) rfl ?_); refine Xgo 8 Try.func75 #[.slice A0_2 l0_2.length c0_2, .int .i64 a1] ?_; (with_reducible refine (laws_heldNodeS.calls k _ _ l0_2 a1 t353 _ ?side1 ?side2 A3.out).mono ?_); (case side1 => exact Xc HR0_2); (case side2 => exact HC0_2.out); rintro e w7 ⟨rfl, hb⟩; refine ⟨_, rfl, ?_⟩; replace BK352 := Xbb BK352 hb; replace HB := Aside0.mk (below_step Xi hb); clear hb))
 have H := HC4.out
 clear HC4
 obtain ⟨c8b0, H⟩ | ⟨c8b0, H⟩ := Xit H
 ·(first | rw [c8b0] | (simp only [i64_w, i32_w]; rw [c8b0]) | skip)
  obtain rfl := Option.some.inj H
  go_wp2
  go_ret
  exact ⟨Xe, Xi⟩
 ·(first | rw [c8b0] | (simp only [i64_w, i32_w]; rw [c8b0]) | skip)
  obtain rfl := Option.some.inj H
  go_wp2
  go_ret
  exact ⟨Xe, Xi⟩

end Go.Proofs.Ytfemohapampkiaa.XA
