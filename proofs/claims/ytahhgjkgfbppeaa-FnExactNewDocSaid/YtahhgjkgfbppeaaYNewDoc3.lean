/- Contracts of the program's functions: each Go function that is named below comes to what its Lean function says. Written by xprint.py (a program of this session's, over the kit's print). Conditions: each contract's own premises. -/
import Derived.Test.YtahhgjkgfbppeaaYNewDoc0
import Derived.Test.YtahhgjkgfbppeaaYNewDoc2
namespace Go.Proofs.Ytahhgjkgfbppeaa.XA
open Go.RowKit Go.Proofs.YtahhgjkgfbppeaaW.PrintWords Go.Proofs.YtahhgjkgfbppeaaW.PrintLast Go.Proofs.YtahhgjkgfbppeaaW.PrintMore XW
attribute [local go_sem] max2_int min2_int max_two min_two max_three min_three max_four min_four   -- for this text's walks alone
set_option linter.unusedVariables false
set_option linter.unusedSimpArgs false

/-! ### laws_heldNodeS: function 82 -/
def laws_heldNodeS.l0 : Nat → List (S73) → Int → Int → Option (Int)
 | 0, _, _, _ => none
 | k + 1, x0, x1, x5 => if x5 < (x0.length : Int) then (if 0 ≤ x5 then (if ((rd_T73 x0 x5).f0) = x1 then (if ((rd_T73 x0 x5).f1) = (wrap64 (x1 + 1)) then (if ((rd_T73 x0 x5).f2) = (wrap64 ((wrap64 (x1 + 1)) + 1)) then ((laws_markText.f k (wrap64 ((wrap64 ((wrap64 (x1 + 1)) + 1)) + 1))).bind fun t141 => (if ((rd_T73 x0 x5).f3).toList = t141.toList then ((laws_heldIntS.f k ((rd_T73 x0 x5).f4) (wrap64 ((wrap64 ((wrap64 ((wrap64 (x1 + 1)) + 1)) + 1)) + 1))).bind fun t143 => (if t143 < 0 then (some (-1)) else (laws_heldNodeS.l0 k x0 t143 (wrap64 (x5 + 1))))) else (some (-1)))) else (some (-1))) else (some (-1))) else (some (-1))) else (none)) else (some x1)
def laws_heldNodeS.f (k : Nat) (l0 : List (S73)) (a1 : Int) : Option (Int) := laws_heldNodeS.l0 k l0 a1 0
def laws_heldNodeS.T13 : Bool × List (List Nat × List Nat) := (true, [([], []), ([], []), ([0, 1], [0, 1]), ([2], [2]), ([3], [3]), ([], []), ([5], [5]), ([4, 6], [4, 6])])
def laws_heldNodeS.B13 : List Nat := [0, 0, 3, 7, 15, 0, 32, 127]
theorem laws_heldNodeS.tab13 : rtab .any (opsOf Try.f82 13) = laws_heldNodeS.T13 := by kernel_rfl
theorem laws_heldNodeS.bits13 : waitsOk laws_heldNodeS.T13.2 laws_heldNodeS.B13 = true := by kernel_rfl
set_option maxHeartbeats 8000000 in
set_option maxRecDepth 100000 in
theorem laws_heldNodeS.calls (k : Nat) (A0 : Option Addr) (c0 : Nat) (l0 : List (S73)) (a1 : Int) (r : Int) (w : World) (hr0 : Kd.C k73 w A0 l0.length l0) (hc0 : l0.length ≤ c0) (h : laws_heldNodeS.f k l0 a1 = some r) :
  Calls Try.prog 82 #[.slice A0 l0.length c0, .int .i64 a1] w fun e w' => e = .returned (.int .i64 r) ∧ Below w.heap.size w w' := by
 have HR0 := Aside0.mk hr0
 have HC0 := Aside0.mk hc0
 clear hr0 hc0
 have HB := Aside0.mk (Below.refl w.heap.size w)
 have H : (laws_heldNodeS.l0 k l0 a1 0) = some r := h
 clear h
 have H' := Aside0.mk H
 clear H
 go_enter Try.func82, Try.ntmps82
 go_wp2
 go_loopg [1, 5] k (fun kq v1 v5 w' => ∃ (x1_1 : Int) (x5_1 : Int), v1 = .int .i64 x1_1 ∧ v5 = .int .i64 x5_1 ∧ Aside0 (laws_heldNodeS.l0 kq l0 x1_1 x5_1 = some r) ∧ Aside0 (kq ≤ k) ∧ Aside0 (Below w.heap.size w w'))
 case atStart => exact ⟨(a1), (0), Xr, Xr, H', Xkr, ⟨Xi⟩⟩
 case round =>
  clear H'
  obtain ⟨x1_1, x5_1, rfl, rfl, HA, HK1, HB⟩ := hrel
  cases gk with
  | zero => cases HA.out
  | succ k1 =>
   have H := HA.out
   clear HA
   simp only [laws_heldNodeS.l0] at H
   obtain ⟨c3b0, H⟩ | ⟨c3b0, H⟩ := Xit H
   ·obtain ⟨c4b0, H⟩ := Xid H
    obtain ⟨c5, H⟩ | ⟨c5, H⟩ := Xiu H
    ·have c5b0 : (((rd_T73 l0 x5_1).f0) == x1_1) = true := beq_iff_eq.mpr c5
     have c5b1 : (((rd_T73 l0 x5_1).f0) != x1_1) = false := bne_eq_false_iff_eq.mpr c5
     clear c5
     obtain ⟨c6, H⟩ | ⟨c6, H⟩ := Xiu H
     ·have c6b0 : (((rd_T73 l0 x5_1).f1) == (wrap64 (x1_1 + 1))) = true := beq_iff_eq.mpr c6
      have c6b1 : (((rd_T73 l0 x5_1).f1) != (wrap64 (x1_1 + 1))) = false := bne_eq_false_iff_eq.mpr c6
      clear c6
      obtain ⟨c7, H⟩ | ⟨c7, H⟩ := Xiu H
      ·have c7b0 : (((rd_T73 l0 x5_1).f2) == (wrap64 ((wrap64 (x1_1 + 1)) + 1))) = true := beq_iff_eq.mpr c7
       have c7b1 : (((rd_T73 l0 x5_1).f2) != (wrap64 ((wrap64 (x1_1 + 1)) + 1))) = false := bne_eq_false_iff_eq.mpr c7
       clear c7
       obtain ⟨t141, A8, H⟩ := Xbi H
       (try dsimp only at H)
       have HC9 := Aside0.mk H
       clear H
       obtain ⟨ad137, A137_4, c137_4, e137, p137, q137, hx137_0, hx137_1, hx137_2, hx137_3, hx137_4, HC137_4, HR137_4⟩ := at_B73 HR0 x5_1 Xa Xa HB
       cases e137
       obtain ⟨ad138, A138_4, c138_4, e138, p138, q138, hx138_0, hx138_1, hx138_2, hx138_3, hx138_4, HC138_4, HR138_4⟩ := at_B73 HR0 x5_1 Xa Xa HB
       obtain rfl : ad137 = ad138 := (by injection e138)
       have ea_ := Option.some.inj (hx137_4.symm.trans hx138_4)
       injection ea_ with ea_ en_ ec_
       subst ea_
       subst ec_
       clear en_
       obtain ⟨ad139, A139_4, c139_4, e139, p139, q139, hx139_0, hx139_1, hx139_2, hx139_3, hx139_4, HC139_4, HR139_4⟩ := at_B73 HR0 x5_1 Xa Xa HB
       obtain rfl : ad137 = ad139 := (by injection e139)
       have ea_ := Option.some.inj (hx137_4.symm.trans hx139_4)
       injection ea_ with ea_ en_ ec_
       subst ea_
       subst ec_
       clear en_
       try go_wp2_with (fail)
       replace HB := Aside0.mk (below_drew1 HB.out)
       have p140 : 0 ≤ (x5_1 : Int) := of_decide_eq_true Xa
       have q140 : x5_1 < (l0.length : Int) := of_decide_eq_true Xa
       obtain ⟨ad140, A140_4, c140_4, e140, hx140_0, hx140_1, hx140_2, hx140_3, hx140_4, hl140_4, hi140_4⟩ := at_T73 HR0.out x5_1 p140 q140
       have hw140_4 := hx140_4
       have hw140_3 := hx140_3
       have hw140_2 := hx140_2
       have hw140_1 := hx140_1
       have hw140_0 := hx140_0
       obtain rfl : ad137 = ad140 := (by injection e140)
       replace hx140_0 := Xm HB hx140_0
       replace hx140_1 := Xm HB hx140_1
       replace hx140_2 := Xm HB hx140_2
       replace hx140_3 := Xm HB hx140_3
       replace hx140_4 := Xm HB hx140_4
       have HR140_4 := Aside0.mk hi140_4
       have HC140_4 := Aside0.mk hl140_4
       clear hi140_4 hl140_4
       replace p140 := eq_true p140
       replace q140 := eq_true q140
       refine start_ (n := 8) (S := fun w' => w'.cell? (ad137.add ((x5_1).toNat * 5)) = some (.int .i64 ((rd_T73 l0 x5_1).f0)) ∧ w'.cell? ⟨(ad137.add ((x5_1).toNat * 5)).block, (ad137.add ((x5_1).toNat * 5)).off + 1, none⟩ = some (.int .i64 ((rd_T73 l0 x5_1).f1)) ∧ w'.cell? ⟨(ad137.add ((x5_1).toNat * 5)).block, (ad137.add ((x5_1).toNat * 5)).off + 2, none⟩ = some (.int .i64 ((rd_T73 l0 x5_1).f2)) ∧ w'.cell? ⟨(ad137.add ((x5_1).toNat * 5)).block, (ad137.add ((x5_1).toNat * 5)).off + 3, none⟩ = some (.string ((rd_T73 l0 x5_1).f3)) ∧ w'.cell? ⟨(ad137.add ((x5_1).toNat * 5)).block, (ad137.add ((x5_1).toNat * 5)).off + 4, none⟩ = some (.slice A140_4 ((rd_T73 l0 x5_1).f4).length c140_4)) (ds := []) #[false, false, false, false, false, false, false, false] (by kernel_rfl) rfl rfl ⟨Xn hw140_0, Xn hw140_1, Xn hw140_2, Xn hw140_3, Xn hw140_4⟩ (fun hHeld => ?_); refine with_tabW laws_heldNodeS.tab13 laws_heldNodeS.bits13 (fun HT_ HW_ => ?_)
       generalize wr.drew = w10 at HB HR140_4 hx140_0 hx140_1 hx140_2 hx140_3 hx140_4 hHeld ⊢
       refine Xpu 0 39 (XW.bs 8 1) HT_.out ?_
       refine Xpu 1 40 (XW.bs 8 3) HT_.out ?_
       refine Xpu 2 41 (XW.bs 8 7) HT_.out ?_
       refine Xpu 3 42 (XW.bs 8 15) HT_.out ?_
       refine Xpu 5 44 (XW.bs 8 47) HT_.out ?_
       refine Xta 4 43 (XW.bs 8 63) HT_.out HW_.out hHeld ?_
       refine one_ (i := 6) (N := some 45) (XW.bs 8 127) rfl rfl (one_of HT_.out (by kernel_rfl)) (by decide) (fun K hK => ?_)
       refine goes_ Try.func93 (by kernel_rfl) rfl #[.int .i64 (wrap64 ((wrap64 ((wrap64 (x1_1 + 1)) + 1)) + 1))] (by rfl) rfl rfl (by (try simp only [List.map_toArray, List.map_cons, List.map_nil]); first | done | rfl | (simp only [List.length_drop, List.length_take]; rfl)) ?_
       with_reducible refine (laws_markText.calls k1 (wrap64 ((wrap64 ((wrap64 (x1_1 + 1)) + 1)) + 1)) t141 _ A8.out).mono ?_
       rintro e w11 ⟨rfl, hb⟩
       refine ⟨_, rfl, ?_⟩
       replace HB := Aside0.mk (below_step Xi hb)
       (try clear hb)
       (try clear hb2)
       (try clear hk)
       (try clear hi)
       refine hK.out _ _ ⟨Xn hw140_0, Xn hw140_1, Xn hw140_2, Xn hw140_3, Xn hw140_4⟩ (fun hHeld => ?_)
       clear hK K
       refine Xno ?_
       refine Xpu 7 46 (XW.bs 8 255) HT_.out ?_
       refine done_ (done_of HT_.out (by kernel_rfl)) ?_
       go_upto_if 46 with (fail)
       have H := HC9.out
       clear HC9
       obtain ⟨c12, H⟩ | ⟨c12, H⟩ := Xiu H
       ·have c12b0 : (((rd_T73 l0 x5_1).f3).toList == t141.toList) = true := beq_iff_eq.mpr c12
        have c12b1 : (((rd_T73 l0 x5_1).f3).toList != t141.toList) = false := bne_eq_false_iff_eq.mpr c12
        clear c12
        (first | rw [c12b0] | (simp only [i64_w, i32_w]; rw [c12b0]) | skip)
        obtain ⟨t143, A13, H⟩ := Xbi H
        (try dsimp only at H)
        have HC14 := Aside0.mk H
        clear H
        obtain ⟨ad142, A142_4, c142_4, e142, p142, q142, hx142_0, hx142_1, hx142_2, hx142_3, hx142_4, HC142_4, HR142_4⟩ := at_B73 HR0 x5_1 Xa Xa HB
        obtain rfl : ad137 = ad142 := (by injection e142)
        have ea_ := Option.some.inj (hx142_4.symm.trans (Xm HB hw140_4))
        injection ea_ with ea_ en_ ec_
        subst ea_
        subst ec_
        clear en_
        go_upto_if 57 with (first | ((with_reducible refine gate_callee (f := 153) rfl ?_); refine Xgo 55 Try.func153 #[.slice A142_4 ((rd_T73 l0 x5_1).f4).length c142_4, .int .i64 (wrap64 ((wrap64 ((wrap64 ((wrap64 (x1_1 + 1)) + 1)) + 1)) + 1))] ?_; (with_reducible refine (laws_heldIntS.calls k1 _ _ ((rd_T73 l0 x5_1).f4) (wrap64 ((wrap64 ((wrap64 ((wrap64 (x1_1 + 1)) + 1)) + 1)) + 1)) t143 _ ?side1 ?side2 A13.out).mono ?_); (case side1 => exact Xc HR142_4); (case side2 => exact HC142_4.out); rintro e w' ⟨rfl, ⟨nd, rfl⟩⟩; refine ⟨_, rfl, ?_⟩))
        (try (rw [drewN_self w11]; generalize hq_ : World.drewN w11 _ = w11; have n0_ : Aside0 (Below w.heap.size w w11) := ⟨by rw [← hq_]; exact Xi⟩; clear HB hq_; have HB := n0_; clear n0_))
        have H := HC14.out
        clear HC14
        obtain ⟨c15b0, H⟩ | ⟨c15b0, H⟩ := Xit H
        ·(first | rw [c15b0] | (simp only [i64_w, i32_w]; rw [c15b0]) | skip)
         obtain rfl := Option.some.inj H
         go_wp2
         go_ret
         exact ⟨Xe, Xi⟩
        ·(first | rw [c15b0] | (simp only [i64_w, i32_w]; rw [c15b0]) | skip)
         have H' := Aside0.mk H
         clear H
         go_wp2
         go_roundg k1
         case measure => have := HK1.out; omega
         case rel => exact ⟨(t143), (wrap64 (x5_1 + 1)), Xr, Xr, H', Xk1, ⟨Xi⟩⟩
       ·have c12b0 : (((rd_T73 l0 x5_1).f3).toList == t141.toList) = false := beq_eq_false_iff_ne.mpr c12
        have c12b1 : (((rd_T73 l0 x5_1).f3).toList != t141.toList) = true := bne_iff_ne.mpr c12
        (first | rw [c12b0] | (simp only [i64_w, i32_w]; rw [c12b0]) | skip)
        obtain rfl := Option.some.inj H
        go_wp2
        go_ret
        exact ⟨Xe, Xi⟩
      ·have c7b0 : (((rd_T73 l0 x5_1).f2) == (wrap64 ((wrap64 (x1_1 + 1)) + 1))) = false := beq_eq_false_iff_ne.mpr c7
       have c7b1 : (((rd_T73 l0 x5_1).f2) != (wrap64 ((wrap64 (x1_1 + 1)) + 1))) = true := bne_iff_ne.mpr c7
       obtain rfl := Option.some.inj H
       obtain ⟨ad137, A137_4, c137_4, e137, p137, q137, hx137_0, hx137_1, hx137_2, hx137_3, hx137_4, HC137_4, HR137_4⟩ := at_B73 HR0 x5_1 Xa Xa HB
       cases e137
       obtain ⟨ad138, A138_4, c138_4, e138, p138, q138, hx138_0, hx138_1, hx138_2, hx138_3, hx138_4, HC138_4, HR138_4⟩ := at_B73 HR0 x5_1 Xa Xa HB
       obtain rfl : ad137 = ad138 := (by injection e138)
       have ea_ := Option.some.inj (hx137_4.symm.trans hx138_4)
       injection ea_ with ea_ en_ ec_
       subst ea_
       subst ec_
       clear en_
       obtain ⟨ad139, A139_4, c139_4, e139, p139, q139, hx139_0, hx139_1, hx139_2, hx139_3, hx139_4, HC139_4, HR139_4⟩ := at_B73 HR0 x5_1 Xa Xa HB
       obtain rfl : ad137 = ad139 := (by injection e139)
       have ea_ := Option.some.inj (hx137_4.symm.trans hx139_4)
       injection ea_ with ea_ en_ ec_
       subst ea_
       subst ec_
       clear en_
       go_wp2
       go_ret
       exact ⟨Xe, Xi⟩
     ·have c6b0 : (((rd_T73 l0 x5_1).f1) == (wrap64 (x1_1 + 1))) = false := beq_eq_false_iff_ne.mpr c6
      have c6b1 : (((rd_T73 l0 x5_1).f1) != (wrap64 (x1_1 + 1))) = true := bne_iff_ne.mpr c6
      obtain rfl := Option.some.inj H
      obtain ⟨ad137, A137_4, c137_4, e137, p137, q137, hx137_0, hx137_1, hx137_2, hx137_3, hx137_4, HC137_4, HR137_4⟩ := at_B73 HR0 x5_1 Xa Xa HB
      cases e137
      obtain ⟨ad138, A138_4, c138_4, e138, p138, q138, hx138_0, hx138_1, hx138_2, hx138_3, hx138_4, HC138_4, HR138_4⟩ := at_B73 HR0 x5_1 Xa Xa HB
      obtain rfl : ad137 = ad138 := (by injection e138)
      have ea_ := Option.some.inj (hx137_4.symm.trans hx138_4)
      injection ea_ with ea_ en_ ec_
      subst ea_
      subst ec_
      clear en_
      go_wp2
      go_ret
      exact ⟨Xe, Xi⟩
    ·have c5b0 : (((rd_T73 l0 x5_1).f0) == x1_1) = false := beq_eq_false_iff_ne.mpr c5
     have c5b1 : (((rd_T73 l0 x5_1).f0) != x1_1) = true := bne_iff_ne.mpr c5
     obtain rfl := Option.some.inj H
     obtain ⟨ad137, A137_4, c137_4, e137, p137, q137, hx137_0, hx137_1, hx137_2, hx137_3, hx137_4, HC137_4, HR137_4⟩ := at_B73 HR0 x5_1 Xa Xa HB
     cases e137
     go_wp2
     go_ret
     exact ⟨Xe, Xi⟩
   ·obtain rfl := Option.some.inj H
    go_wp2
    go_ret
    exact ⟨Xe, Xi⟩

/-! ### laws_heldDoc: function 27 -/
def laws_heldDoc.f (k : Nat) (a0_0 : Int) (a0_1 : Int) (l0_2 : List (S73)) (a1 : Int) : Option (Int) := (laws_heldNodeS.f k l0_2 a1).bind fun t145 => (if t145 < 0 then (some (-1)) else (some t145))
set_option maxHeartbeats 8000000 in
set_option maxRecDepth 100000 in
theorem laws_heldDoc.calls (k : Nat) (a0_0 : Int) (a0_1 : Int) (A0_2 : Option Addr) (c0_2 : Nat) (l0_2 : List (S73)) (a1 : Int) (r : Int) (w : World) (hr0_2 : Kd.C k73 w A0_2 l0_2.length l0_2) (hc0_2 : l0_2.length ≤ c0_2) (h : laws_heldDoc.f k a0_0 a0_1 l0_2 a1 = some r) :
  Calls Try.prog 27 #[.agg #[.int .i64 a0_0, .int .i64 a0_1, .slice A0_2 l0_2.length c0_2], .int .i64 a1] w fun e w' => e = .returned (.int .i64 r) ∧ Below w.heap.size w w' := by
 have hu33 := Try.underlying33
 have HR0_2 := Aside0.mk hr0_2
 have HC0_2 := Aside0.mk hc0_2
 clear hr0_2 hc0_2
 have HB := Aside0.mk (Below.refl w.heap.size w)
 have H : ((laws_heldNodeS.f k l0_2 a1).bind fun t145 => (if t145 < 0 then (some (-1)) else (some t145))) = some r := h
 clear h
 obtain ⟨t145, A3, H⟩ := Xbi H
 (try dsimp only at H)
 have HC4 := Aside0.mk H
 clear H
 go_enter Try.func27, Try.ntmps27
 go_upto_if 10 with (first | ((with_reducible refine gate_dst (N := 2) rfl ?_); refine Xbox 2 #[.int .i64 a0_0, .int .i64 a0_1, .slice A0_2 l0_2.length c0_2] 33 ?_; intro gb144 hg w5 hbox hb; have BK144 := Aside0.mk (hbox); have GE144 := Xge hg Xi; replace HB := Aside0.mk (below_step Xi hb); clear hb hbox hg; obtain ⟨hcz6_0, hcz6_1, hcz6_2⟩ := Xc3 BK144) | ((with_reducible refine gate_callee (f := 82) rfl ?_); refine Xgo 8 Try.func82 #[.slice A0_2 l0_2.length c0_2, .int .i64 a1] ?_; (with_reducible refine (laws_heldNodeS.calls k _ _ l0_2 a1 t145 _ ?side1 ?side2 A3.out).mono ?_); (case side1 => exact Xc HR0_2); (case side2 => exact HC0_2.out); rintro e w7 ⟨rfl, hb⟩; refine ⟨_, rfl, ?_⟩; replace BK144 := Xbb BK144 hb; replace HB := Aside0.mk (below_step Xi hb); clear hb))
 have H := HC4.out
 clear HC4
 obtain ⟨c8b0, H⟩ | ⟨c8b0, H⟩ := Xit H
 ·(first | rw [c8b0] | (simp only [i64_w, i32_w]; rw [c8b0]) | skip)
  obtain rfl := Option.some.inj H
  go_wp2
  go_ret
  exact ⟨Xe, Xi⟩
 ·(first | rw [c8b0] | (simp only [i64_w, i32_w]; rw [c8b0]) | skip)
  obtain rfl := Option.some.inj H
  go_wp2
  go_ret
  exact ⟨Xe, Xi⟩

end Go.Proofs.Ytahhgjkgfbppeaa.XA
