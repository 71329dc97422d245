/- Contracts of the program's functions: each Go function that is named below comes to what its Lean function says. Written by xprint.py (a program of this session's, over the kit's print). Conditions: each contract's own premises. -/
import Derived.Test.YtpdhccdmbdbdpaaYCheckNode0
import Derived.Test.YtpdhccdmbdbdpaaYCheckNode18
namespace Go.Proofs.Ytpdhccdmbdbdpaa.XA
open Go.RowKit Go.Proofs.YtpdhccdmbdbdpaaW.PrintWords Go.Proofs.YtpdhccdmbdbdpaaW.PrintLast Go.Proofs.YtpdhccdmbdbdpaaW.PrintMore XW
attribute [local go_sem] max2_int min2_int max_two min_two max_three min_three max_four min_four   -- for this text's walks alone
set_option linter.unusedVariables false
set_option linter.unusedSimpArgs false

/-! ### laws_eqTermS: function 118 -/
def laws_eqTermS.l0 : Nat → List (S135) → List (S135) → Int → Option (Bool)
 | 0, _, _, _ => none
 | k + 1, x0, x1, x5 => if x5 < (x0.length : Int) then (if 0 ≤ x5 then (if x5 < (x1.length : Int) then ((laws_eqTerm.f k ((rd_T135 x0 x5).f0) ((rd_T135 x0 x5).f1) ((rd_T135 x1 x5).f0) ((rd_T135 x1 x5).f1)).bind fun t411 => (if t411 = true then (laws_eqTermS.l0 k x0 x1 (wrap64 (x5 + 1))) else (some false))) else (none)) else (none)) else (some true)
def laws_eqTermS.f (k : Nat) (l0 : List (S135)) (l1 : List (S135)) : Option (Bool) := if (l0.length : Int) = (l1.length : Int) then (laws_eqTermS.l0 k l0 l1 0) else (some false)
def laws_eqTermS.T6 : Bool × List (List Nat × List Nat) := (true, [([], []), ([], []), ([0, 1], [0, 1]), ([2], [2]), ([], []), ([], []), ([4, 5], [4, 5]), ([6], [6]), ([3, 7], [3, 7]), ([8], [8])])
def laws_eqTermS.B6 : List Nat := [0, 0, 3, 7, 0, 0, 48, 112, 255, 511]
theorem laws_eqTermS.tab6 : rtab .any (opsOf Try.f118 6) = laws_eqTermS.T6 := by kernel_rfl
theorem laws_eqTermS.bits6 : waitsOk laws_eqTermS.T6.2 laws_eqTermS.B6 = true := by kernel_rfl
set_option maxHeartbeats 8000000 in
set_option maxRecDepth 100000 in
theorem laws_eqTermS.calls (k : Nat) (A0 : Option Addr) (c0 : Nat) (l0 : List (S135)) (A1 : Option Addr) (c1 : Nat) (l1 : List (S135)) (r : Bool) (w : World) (hr0 : Kd.C k135 w A0 l0.length l0) (hc0 : l0.length ≤ c0) (hr1 : Kd.C k135 w A1 l1.length l1) (hc1 : l1.length ≤ c1) (h : laws_eqTermS.f k l0 l1 = some r) :
  Calls Try.prog 118 #[.slice A0 l0.length c0, .slice A1 l1.length c1] w fun e w' => e = .returned (.bool r) ∧ Below w.heap.size w w' := by
 have hu135 := Try.underlying135
 have HR0 := Aside0.mk hr0
 have HC0 := Aside0.mk hc0
 clear hr0 hc0
 have HR1 := Aside0.mk hr1
 have HC1 := Aside0.mk hc1
 clear hr1 hc1
 have HB := Aside0.mk (Below.refl w.heap.size w)
 have H : (if (l0.length : Int) = (l1.length : Int) then (laws_eqTermS.l0 k l0 l1 0) else (some false)) = some r := h
 clear h
 obtain ⟨c3, H⟩ | ⟨c3, H⟩ := Xiu H
 ·have c3b0 : ((l0.length : Int) == (l1.length : Int)) = true := beq_iff_eq.mpr c3
  have c3b1 : ((l0.length : Int) != (l1.length : Int)) = false := bne_eq_false_iff_eq.mpr c3
  have c3b2 : (l0.length == l1.length) = true := by first | simpa using c3 | (simp at c3 ⊢; omega)
  clear c3
  have H' := Aside0.mk H
  clear H
  go_enter Try.func118, Try.ntmps118
  go_wp2
  go_loopg [5] k (fun kq v5 w' => ∃ (x5_1 : Int), v5 = .int .i64 x5_1 ∧ Aside0 (laws_eqTermS.l0 kq l0 l1 x5_1 = some r) ∧ Aside0 (kq ≤ k) ∧ Aside0 (Below w.heap.size w w'))
  case atStart => exact ⟨(0), Xr, H', Xkr, ⟨Xi⟩⟩
  case round =>
   clear H'
   (try clear c1); (try clear c3); (try clear c3b0); (try clear c3b1); (try clear c3b2)
   obtain ⟨x5_1, rfl, HA, HK1, HB⟩ := hrel
   cases gk with
   | zero => cases HA.out
   | succ k1 =>
    have H := HA.out
    clear HA
    simp only [laws_eqTermS.l0] at H
    obtain ⟨c4b0, H⟩ | ⟨c4b0, H⟩ := Xit H
    ·obtain ⟨c5b0, H⟩ := Xid H
     obtain ⟨c6b0, H⟩ := Xid H
     obtain ⟨t411, A7, H⟩ := Xbi H
     (try dsimp only at H)
     have HC8 := Aside0.mk H
     clear H
     try go_wp2_with (fail)
     replace HB := Aside0.mk (below_drew1 HB.out)
     have p409 : 0 ≤ (x5_1 : Int) := of_decide_eq_true Xa
     have q409 : x5_1 < (l0.length : Int) := of_decide_eq_true Xa
     obtain ⟨ad409, A409_0, c409_0, e409, hx409_0, hx409_1, hl409_0, hi409_0⟩ := at_T135 HR0.out x5_1 p409 q409
     have hw409_1 := hx409_1
     have hw409_0 := hx409_0
     cases e409
     replace hx409_0 := Xm HB hx409_0
     replace hx409_1 := Xm HB hx409_1
     have HR409_0 := Aside0.mk hi409_0
     have HC409_0 := Aside0.mk hl409_0
     clear hi409_0 hl409_0
     replace p409 := eq_true p409
     replace q409 := eq_true q409
     have p410 : 0 ≤ (x5_1 : Int) := of_decide_eq_true Xa
     have q410 : x5_1 < (l1.length : Int) := of_decide_eq_true Xa
     obtain ⟨ad410, A410_0, c410_0, e410, hx410_0, hx410_1, hl410_0, hi410_0⟩ := at_T135 HR1.out x5_1 p410 q410
     have hw410_1 := hx410_1
     have hw410_0 := hx410_0
     cases e410
     replace hx410_0 := Xm HB hx410_0
     replace hx410_1 := Xm HB hx410_1
     have HR410_0 := Aside0.mk hi410_0
     have HC410_0 := Aside0.mk hl410_0
     clear hi410_0 hl410_0
     replace p410 := eq_true p410
     replace q410 := eq_true q410
     refine start_ (n := 10) (S := fun w' => w'.cell? (ad409.add ((x5_1).toNat * 2)) = some (.slice A409_0 ((rd_T135 l0 x5_1).f0).length c409_0) ∧ w'.cell? ⟨(ad409.add ((x5_1).toNat * 2)).block, (ad409.add ((x5_1).toNat * 2)).off + 1, none⟩ = some (.int .i64 ((rd_T135 l0 x5_1).f1)) ∧ w'.cell? (ad410.add ((x5_1).toNat * 2)) = some (.slice A410_0 ((rd_T135 l1 x5_1).f0).length c410_0) ∧ w'.cell? ⟨(ad410.add ((x5_1).toNat * 2)).block, (ad410.add ((x5_1).toNat * 2)).off + 1, none⟩ = some (.int .i64 ((rd_T135 l1 x5_1).f1))) (ds := []) #[false, false, false, false, false, false, false, false, false, false] (by kernel_rfl) rfl rfl ⟨Xn hw409_0, Xn hw409_1, Xn hw410_0, Xn hw410_1⟩ (fun hHeld => ?_); refine with_tabW laws_eqTermS.tab6 laws_eqTermS.bits6 (fun HT_ HW_ => ?_)
     generalize wr.drew = w9 at HB HR409_0 HR410_0 hx409_0 hx409_1 hx410_0 hx410_1 hHeld ⊢
     refine Xpu 0 17 (XW.bs 10 1) HT_.out ?_
     refine Xpu 1 18 (XW.bs 10 3) HT_.out ?_
     refine Xpu 2 19 (XW.bs 10 7) HT_.out ?_
     refine Xpu 4 21 (XW.bs 10 23) HT_.out ?_
     refine Xpu 5 22 (XW.bs 10 55) HT_.out ?_
     refine Xpu 6 23 (XW.bs 10 119) HT_.out ?_
     refine Xta 3 20 (XW.bs 10 127) HT_.out HW_.out hHeld ?_
     refine Xta 7 24 (XW.bs 10 255) HT_.out HW_.out hHeld ?_
     refine one_ (i := 8) (N := some 25) (XW.bs 10 511) rfl rfl (one_of HT_.out (by kernel_rfl)) (by decide) (fun K hK => ?_)
     refine goes_ Try.func139 (by kernel_rfl) rfl #[.agg #[.slice A409_0 ((rd_T135 l0 x5_1).f0).length c409_0, .int .i64 ((rd_T135 l0 x5_1).f1)], .agg #[.slice A410_0 ((rd_T135 l1 x5_1).f0).length c410_0, .int .i64 ((rd_T135 l1 x5_1).f1)]] (by rfl) rfl rfl (by (try simp only [List.map_toArray, List.map_cons, List.map_nil]); first | done | rfl | (simp only [List.length_drop, List.length_take]; rfl)) ?_
     with_reducible refine (laws_eqTerm.calls k1 _ _ ((rd_T135 l0 x5_1).f0) ((rd_T135 l0 x5_1).f1) _ _ ((rd_T135 l1 x5_1).f0) ((rd_T135 l1 x5_1).f1) t411 _ ?side1 ?side2 ?side3 ?side4 A7.out).mono ?_
     (case side1 => exact Xc HR409_0)
     (case side2 => exact HC409_0.out)
     (case side3 => exact Xc HR410_0)
     (case side4 => exact HC410_0.out)
     rintro e w10 ⟨rfl, hb⟩
     refine ⟨_, rfl, ?_⟩
     replace HB := Aside0.mk (below_step Xi hb)
     (try clear hb)
     (try clear hb2)
     (try clear hk)
     (try clear hi)
     refine hK.out _ _ ⟨Xn hw409_0, Xn hw409_1, Xn hw410_0, Xn hw410_1⟩ (fun hHeld => ?_)
     clear hK K
     refine Xno ?_
     refine Xpu 9 26 (XW.bs 10 1023) HT_.out ?_
     refine done_ (done_of HT_.out (by kernel_rfl)) ?_
     go_upto_if 26 with (fail)
     have H := HC8.out
     clear HC8
     by_cases c11 : t411 = true
     ·subst c11
      (first | rw [if_pos rfl] at H | skip)
      have H' := Aside0.mk H
      clear H
      go_wp2
      go_roundg k1
      case measure => have := HK1.out; omega
      case rel => exact ⟨(wrap64 (x5_1 + 1)), Xr, H', Xk1, ⟨Xi⟩⟩
     ·replace c11 := Bool.eq_false_iff.mpr c11
      subst c11
      (first | rw [if_neg (show ¬ (false = true) by decide)] at H | skip)
      obtain rfl := Option.some.inj H
      go_wp2
      go_ret
      exact ⟨Xe, Xi⟩
    ·obtain rfl := Option.some.inj H
     go_wp2
     go_ret
     exact ⟨Xe, Xi⟩
 ·have c3b0 : ((l0.length : Int) == (l1.length : Int)) = false := beq_eq_false_iff_ne.mpr c3
  have c3b1 : ((l0.length : Int) != (l1.length : Int)) = true := bne_iff_ne.mpr c3
  have c3b2 : (l0.length == l1.length) = false := by first | simpa using c3 | (simp at c3 ⊢; omega)
  obtain rfl := Option.some.inj H
  go_enter Try.func118, Try.ntmps118
  go_wp2
  go_ret
  exact ⟨Xe, Xi⟩

/-! ### laws_eqRule: function 83 -/
def laws_eqRule.f (k : Nat) (a0_0 : ByteArray) (a0_1 : Bool) (l0_2 : List (S135)) (a1_0 : ByteArray) (a1_1 : Bool) (l1_2 : List (S135)) : Option (Bool) := if a0_0.toList = a1_0.toList then (if (a0_1 != a1_1) = true then (some false) else ((laws_eqTermS.f k l0_2 l1_2).bind fun t414 => (if t414 = true then (some true) else (some false)))) else (some false)
set_option maxHeartbeats 8000000 in
set_option maxRecDepth 100000 in
theorem laws_eqRule.calls (k : Nat) (a0_0 : ByteArray) (a0_1 : Bool) (A0_2 : Option Addr) (c0_2 : Nat) (l0_2 : List (S135)) (a1_0 : ByteArray) (a1_1 : Bool) (A1_2 : Option Addr) (c1_2 : Nat) (l1_2 : List (S135)) (r : Bool) (w : World) (hr0_2 : Kd.C k135 w A0_2 l0_2.length l0_2) (hc0_2 : l0_2.length ≤ c0_2) (hr1_2 : Kd.C k135 w A1_2 l1_2.length l1_2) (hc1_2 : l1_2.length ≤ c1_2) (h : laws_eqRule.f k a0_0 a0_1 l0_2 a1_0 a1_1 l1_2 = some r) :
  Calls Try.prog 83 #[.agg #[.string a0_0, .bool a0_1, .slice A0_2 l0_2.length c0_2], .agg #[.string a1_0, .bool a1_1, .slice A1_2 l1_2.length c1_2]] w fun e w' => e = .returned (.bool r) ∧ Below w.heap.size w w' := by
 have hu95 := Try.underlying95
 have HR0_2 := Aside0.mk hr0_2
 have HC0_2 := Aside0.mk hc0_2
 clear hr0_2 hc0_2
 have HR1_2 := Aside0.mk hr1_2
 have HC1_2 := Aside0.mk hc1_2
 clear hr1_2 hc1_2
 have HB := Aside0.mk (Below.refl w.heap.size w)
 have H : (if a0_0.toList = a1_0.toList then (if (a0_1 != a1_1) = true then (some false) else ((laws_eqTermS.f k l0_2 l1_2).bind fun t414 => (if t414 = true then (some true) else (some false)))) else (some false)) = some r := h
 clear h
 have HC3 := Aside0.mk H
 clear H
 go_enter Try.func83, Try.ntmps83
 go_upto_if 9 with (first | ((with_reducible refine gate_dst (N := 2) rfl ?_); refine Xbox 2 #[.string a0_0, .bool a0_1, .slice A0_2 l0_2.length c0_2] 95 ?_; intro gb412 hg w4 hbox hb; have BK412 := Aside0.mk (hbox); have GE412 := Xge hg Xi; replace HB := Aside0.mk (below_step Xi hb); clear hb hbox hg) | ((with_reducible refine gate_dst (N := 3) rfl ?_); refine Xbox 3 #[.string a1_0, .bool a1_1, .slice A1_2 l1_2.length c1_2] 95 ?_; intro gb413 hg w5 hbox hb; have BK413 := Aside0.mk (hbox); have GE413 := Xge hg Xi; replace HB := Aside0.mk (below_step Xi hb); have NB412_413 := Xnb hg BK412; have NB413_412 := Xns NB412_413; replace BK412 := Xbb BK412 hb; clear hb hbox hg; have hnb6 := NB412_413.out; have hnc6 := NB413_412.out; obtain ⟨hcz7_0, hcz7_1, hcz7_2⟩ := Xc3 BK412; obtain ⟨hcz8_0, hcz8_1, hcz8_2⟩ := Xc3 BK413))
 have H := HC3.out
 clear HC3
 obtain ⟨c9, H⟩ | ⟨c9, H⟩ := Xiu H
 ·have c9b0 : (a0_0.toList == a1_0.toList) = true := beq_iff_eq.mpr c9
  have c9b1 : (a0_0.toList != a1_0.toList) = false := bne_eq_false_iff_eq.mpr c9
  clear c9
  (first | rw [c9b0] | (simp only [i64_w, i32_w]; rw [c9b0]) | skip)
  obtain ⟨c10, H⟩ | ⟨c10, H⟩ := Xiu H
  ·have c10b0 : (a0_1 != a1_1) = true := c10
   (try (have c10b1 : decide (a0_1 = a1_1) = false := by simpa using c10))
   (try (have c10b2 : (a0_1 == a1_1) = false := by simpa using c10))
   (try (have c10b3 : ¬ (a0_1 = a1_1) := by simpa using c10))
   (try (have c10b4 : ((!a0_1) == a1_1) = true := by revert c10; cases a0_1 <;> cases a1_1 <;> simp))
   clear c10
   obtain rfl := Option.some.inj H
   have hnb11 := NB412_413.out
   have hnc11 := NB413_412.out
   obtain ⟨hcz12_0, hcz12_1, hcz12_2⟩ := Xc3 BK412
   obtain ⟨hcz13_0, hcz13_1, hcz13_2⟩ := Xc3 BK413
   go_wp2
   go_ret
   exact ⟨Xe, Xi⟩
  ·have c10b0 : (a0_1 != a1_1) = false := by simpa using c10
   (try (have c10b1 : decide (a0_1 = a1_1) = true := by simpa using c10))
   (try (have c10b2 : (a0_1 == a1_1) = true := by simpa using c10))
   (try (have c10b3 : ((!a0_1) == a1_1) = false := by revert c10; cases a0_1 <;> cases a1_1 <;> simp))
   clear c10
   obtain ⟨t414, A14, H⟩ := Xbi H
   (try dsimp only at H)
   have HC15 := Aside0.mk H
   clear H
   have hnb16 := NB412_413.out
   have hnc16 := NB413_412.out
   obtain ⟨hcz17_0, hcz17_1, hcz17_2⟩ := Xc3 BK412
   obtain ⟨hcz18_0, hcz18_1, hcz18_2⟩ := Xc3 BK413
   go_upto_if 20 with (first | ((with_reducible refine gate_callee (f := 118) rfl ?_); refine Xgo 19 Try.func118 #[.slice A0_2 l0_2.length c0_2, .slice A1_2 l1_2.length c1_2] ?_; (with_reducible refine (laws_eqTermS.calls k _ _ l0_2 _ _ l1_2 t414 _ ?side1 ?side2 ?side3 ?side4 A14.out).mono ?_); (case side1 => exact Xc HR0_2); (case side2 => exact HC0_2.out); (case side3 => exact Xc HR1_2); (case side4 => exact HC1_2.out); rintro e w19 ⟨rfl, hb⟩; refine ⟨_, rfl, ?_⟩; replace BK412 := Xbb BK412 hb; replace BK413 := Xbb BK413 hb; replace HB := Aside0.mk (below_step Xi hb); clear hb))
   have H := HC15.out
   clear HC15
   by_cases c20 : t414 = true
   ·subst c20
    (first | rw [if_pos rfl] at H | skip)
    obtain rfl := Option.some.inj H
    go_wp2
    go_ret
    exact ⟨Xe, Xi⟩
   ·replace c20 := Bool.eq_false_iff.mpr c20
    subst c20
    (first | rw [if_neg (show ¬ (false = true) by decide)] at H | skip)
    obtain rfl := Option.some.inj H
    go_wp2
    go_ret
    exact ⟨Xe, Xi⟩
 ·have c9b0 : (a0_0.toList == a1_0.toList) = false := beq_eq_false_iff_ne.mpr c9
  have c9b1 : (a0_0.toList != a1_0.toList) = true := bne_iff_ne.mpr c9
  (first | rw [c9b0] | (simp only [i64_w, i32_w]; rw [c9b0]) | skip)
  obtain rfl := Option.some.inj H
  go_wp2
  go_ret
  exact ⟨Xe, Xi⟩

/-! ### laws_eqRuleS: function 41 -/
def laws_eqRuleS.l0 : Nat → List (S95) → List (S95) → Int → Option (Bool)
 | 0, _, _, _ => none
 | k + 1, x0, x1, x5 => if x5 < (x0.length : Int) then (if 0 ≤ x5 then (if x5 < (x1.length : Int) then ((laws_eqRule.f k ((rd_T95 x0 x5).f0) ((rd_T95 x0 x5).f1) ((rd_T95 x0 x5).f2) ((rd_T95 x1 x5).f0) ((rd_T95 x1 x5).f1) ((rd_T95 x1 x5).f2)).bind fun t417 => (if t417 = true then (laws_eqRuleS.l0 k x0 x1 (wrap64 (x5 + 1))) else (some false))) else (none)) else (none)) else (some true)
def laws_eqRuleS.f (k : Nat) (l0 : List (S95)) (l1 : List (S95)) : Option (Bool) := if (l0.length : Int) = (l1.length : Int) then (laws_eqRuleS.l0 k l0 l1 0) else (some false)
def laws_eqRuleS.T6 : Bool × List (List Nat × List Nat) := (true, [([], []), ([], []), ([0, 1], [0, 1]), ([2], [2]), ([], []), ([], []), ([4, 5], [4, 5]), ([6], [6]), ([3, 7], [3, 7]), ([8], [8])])
def laws_eqRuleS.B6 : List Nat := [0, 0, 3, 7, 0, 0, 48, 112, 255, 511]
theorem laws_eqRuleS.tab6 : rtab .any (opsOf Try.f41 6) = laws_eqRuleS.T6 := by kernel_rfl
theorem laws_eqRuleS.bits6 : waitsOk laws_eqRuleS.T6.2 laws_eqRuleS.B6 = true := by kernel_rfl
set_option maxHeartbeats 8000000 in
set_option maxRecDepth 100000 in
theorem laws_eqRuleS.calls (k : Nat) (A0 : Option Addr) (c0 : Nat) (l0 : List (S95)) (A1 : Option Addr) (c1 : Nat) (l1 : List (S95)) (r : Bool) (w : World) (hr0 : Kd.C k95 w A0 l0.length l0) (hc0 : l0.length ≤ c0) (hr1 : Kd.C k95 w A1 l1.length l1) (hc1 : l1.length ≤ c1) (h : laws_eqRuleS.f k l0 l1 = some r) :
  Calls Try.prog 41 #[.slice A0 l0.length c0, .slice A1 l1.length c1] w fun e w' => e = .returned (.bool r) ∧ Below w.heap.size w w' := by
 have hu95 := Try.underlying95
 have HR0 := Aside0.mk hr0
 have HC0 := Aside0.mk hc0
 clear hr0 hc0
 have HR1 := Aside0.mk hr1
 have HC1 := Aside0.mk hc1
 clear hr1 hc1
 have HB := Aside0.mk (Below.refl w.heap.size w)
 have H : (if (l0.length : Int) = (l1.length : Int) then (laws_eqRuleS.l0 k l0 l1 0) else (some false)) = some r := h
 clear h
 obtain ⟨c3, H⟩ | ⟨c3, H⟩ := Xiu H
 ·have c3b0 : ((l0.length : Int) == (l1.length : Int)) = true := beq_iff_eq.mpr c3
  have c3b1 : ((l0.length : Int) != (l1.length : Int)) = false := bne_eq_false_iff_eq.mpr c3
  have c3b2 : (l0.length == l1.length) = true := by first | simpa using c3 | (simp at c3 ⊢; omega)
  clear c3
  have H' := Aside0.mk H
  clear H
  go_enter Try.func41, Try.ntmps41
  go_wp2
  go_loopg [5] k (fun kq v5 w' => ∃ (x5_1 : Int), v5 = .int .i64 x5_1 ∧ Aside0 (laws_eqRuleS.l0 kq l0 l1 x5_1 = some r) ∧ Aside0 (kq ≤ k) ∧ Aside0 (Below w.heap.size w w'))
  case atStart => exact ⟨(0), Xr, H', Xkr, ⟨Xi⟩⟩
  case round =>
   clear H'
   (try clear c1); (try clear c3); (try clear c3b0); (try clear c3b1); (try clear c3b2)
   obtain ⟨x5_1, rfl, HA, HK1, HB⟩ := hrel
   cases gk with
   | zero => cases HA.out
   | succ k1 =>
    have H := HA.out
    clear HA
    simp only [laws_eqRuleS.l0] at H
    obtain ⟨c4b0, H⟩ | ⟨c4b0, H⟩ := Xit H
    ·obtain ⟨c5b0, H⟩ := Xid H
     obtain ⟨c6b0, H⟩ := Xid H
     obtain ⟨t417, A7, H⟩ := Xbi H
     (try dsimp only at H)
     have HC8 := Aside0.mk H
     clear H
     try go_wp2_with (fail)
     replace HB := Aside0.mk (below_drew1 HB.out)
     have p415 : 0 ≤ (x5_1 : Int) := of_decide_eq_true Xa
     have q415 : x5_1 < (l0.length : Int) := of_decide_eq_true Xa
     obtain ⟨ad415, A415_2, c415_2, e415, hx415_0, hx415_1, hx415_2, hl415_2, hi415_2⟩ := at_T95 HR0.out x5_1 p415 q415
     have hw415_2 := hx415_2
     have hw415_1 := hx415_1
     have hw415_0 := hx415_0
     cases e415
     replace hx415_0 := Xm HB hx415_0
     replace hx415_1 := Xm HB hx415_1
     replace hx415_2 := Xm HB hx415_2
     have HR415_2 := Aside0.mk hi415_2
     have HC415_2 := Aside0.mk hl415_2
     clear hi415_2 hl415_2
     replace p415 := eq_true p415
     replace q415 := eq_true q415
     have p416 : 0 ≤ (x5_1 : Int) := of_decide_eq_true Xa
     have q416 : x5_1 < (l1.length : Int) := of_decide_eq_true Xa
     obtain ⟨ad416, A416_2, c416_2, e416, hx416_0, hx416_1, hx416_2, hl416_2, hi416_2⟩ := at_T95 HR1.out x5_1 p416 q416
     have hw416_2 := hx416_2
     have hw416_1 := hx416_1
     have hw416_0 := hx416_0
     cases e416
     replace hx416_0 := Xm HB hx416_0
     replace hx416_1 := Xm HB hx416_1
     replace hx416_2 := Xm HB hx416_2
     have HR416_2 := Aside0.mk hi416_2
     have HC416_2 := Aside0.mk hl416_2
     clear hi416_2 hl416_2
     replace p416 := eq_true p416
     replace q416 := eq_true q416
     refine start_ (n := 10) (S := fun w' => w'.cell? (ad415.add ((x5_1).toNat * 3)) = some (.string ((rd_T95 l0 x5_1).f0)) ∧ w'.cell? ⟨(ad415.add ((x5_1).toNat * 3)).block, (ad415.add ((x5_1).toNat * 3)).off + 1, none⟩ = some (.bool ((rd_T95 l0 x5_1).f1)) ∧ w'.cell? ⟨(ad415.add ((x5_1).toNat * 3)).block, (ad415.add ((x5_1).toNat * 3)).off + 2, none⟩ = some (.slice A415_2 ((rd_T95 l0 x5_1).f2).length c415_2) ∧ w'.cell? (ad416.add ((x5_1).toNat * 3)) = some (.string ((rd_T95 l1 x5_1).f0)) ∧ w'.cell? ⟨(ad416.add ((x5_1).toNat * 3)).block, (ad416.add ((x5_1).toNat * 3)).off + 1, none⟩ = some (.bool ((rd_T95 l1 x5_1).f1)) ∧ w'.cell? ⟨(ad416.add ((x5_1).toNat * 3)).block, (ad416.add ((x5_1).toNat * 3)).off + 2, none⟩ = some (.slice A416_2 ((rd_T95 l1 x5_1).f2).length c416_2)) (ds := []) #[false, false, false, false, false, false, false, false, false, false] (by kernel_rfl) rfl rfl ⟨Xn hw415_0, Xn hw415_1, Xn hw415_2, Xn hw416_0, Xn hw416_1, Xn hw416_2⟩ (fun hHeld => ?_); refine with_tabW laws_eqRuleS.tab6 laws_eqRuleS.bits6 (fun HT_ HW_ => ?_)
     generalize wr.drew = w9 at HB HR415_2 HR416_2 hx415_0 hx415_1 hx415_2 hx416_0 hx416_1 hx416_2 hHeld ⊢
     refine Xpu 0 17 (XW.bs 10 1) HT_.out ?_
     refine Xpu 1 18 (XW.bs 10 3) HT_.out ?_
     refine Xpu 2 19 (XW.bs 10 7) HT_.out ?_
     refine Xpu 4 21 (XW.bs 10 23) HT_.out ?_
     refine Xpu 5 22 (XW.bs 10 55) HT_.out ?_
     refine Xpu 6 23 (XW.bs 10 119) HT_.out ?_
     refine Xta 3 20 (XW.bs 10 127) HT_.out HW_.out hHeld ?_
     refine Xta 7 24 (XW.bs 10 255) HT_.out HW_.out hHeld ?_
     refine one_ (i := 8) (N := some 25) (XW.bs 10 511) rfl rfl (one_of HT_.out (by kernel_rfl)) (by decide) (fun K hK => ?_)
     refine goes_ Try.func83 (by kernel_rfl) rfl #[.agg #[.string ((rd_T95 l0 x5_1).f0), .bool ((rd_T95 l0 x5_1).f1), .slice A415_2 ((rd_T95 l0 x5_1).f2).length c415_2], .agg #[.string ((rd_T95 l1 x5_1).f0), .bool ((rd_T95 l1 x5_1).f1), .slice A416_2 ((rd_T95 l1 x5_1).f2).length c416_2]] (by rfl) rfl rfl (by (try simp only [List.map_toArray, List.map_cons, List.map_nil]); first | done | rfl | (simp only [List.length_drop, List.length_take]; rfl)) ?_
     with_reducible refine (laws_eqRule.calls k1 ((rd_T95 l0 x5_1).f0) ((rd_T95 l0 x5_1).f1) _ _ ((rd_T95 l0 x5_1).f2) ((rd_T95 l1 x5_1).f0) ((rd_T95 l1 x5_1).f1) _ _ ((rd_T95 l1 x5_1).f2) t417 _ ?side1 ?side2 ?side3 ?side4 A7.out).mono ?_
     (case side1 => exact Xc HR415_2)
     (case side2 => exact HC415_2.out)
     (case side3 => exact Xc HR416_2)
     (case side4 => exact HC416_2.out)
     rintro e w10 ⟨rfl, hb⟩
     refine ⟨_, rfl, ?_⟩
     replace HB := Aside0.mk (below_step Xi hb)
     (try clear hb)
     (try clear hb2)
     (try clear hk)
     (try clear hi)
     refine hK.out _ _ ⟨Xn hw415_0, Xn hw415_1, Xn hw415_2, Xn hw416_0, Xn hw416_1, Xn hw416_2⟩ (fun hHeld => ?_)
     clear hK K
     refine Xno ?_
     refine Xpu 9 26 (XW.bs 10 1023) HT_.out ?_
     refine done_ (done_of HT_.out (by kernel_rfl)) ?_
     go_upto_if 26 with (fail)
     have H := HC8.out
     clear HC8
     by_cases c11 : t417 = true
     ·subst c11
      (first | rw [if_pos rfl] at H | skip)
      have H' := Aside0.mk H
      clear H
      go_wp2
      go_roundg k1
      case measure => have := HK1.out; omega
      case rel => exact ⟨(wrap64 (x5_1 + 1)), Xr, H', Xk1, ⟨Xi⟩⟩
     ·replace c11 := Bool.eq_false_iff.mpr c11
      subst c11
      (first | rw [if_neg (show ¬ (false = true) by decide)] at H | skip)
      obtain rfl := Option.some.inj H
      go_wp2
      go_ret
      exact ⟨Xe, Xi⟩
    ·obtain rfl := Option.some.inj H
     go_wp2
     go_ret
     exact ⟨Xe, Xi⟩
 ·have c3b0 : ((l0.length : Int) == (l1.length : Int)) = false := beq_eq_false_iff_ne.mpr c3
  have c3b1 : ((l0.length : Int) != (l1.length : Int)) = true := bne_iff_ne.mpr c3
  have c3b2 : (l0.length == l1.length) = false := by first | simpa using c3 | (simp at c3 ⊢; omega)
  obtain rfl := Option.some.inj H
  go_enter Try.func41, Try.ntmps41
  go_wp2
  go_ret
  exact ⟨Xe, Xi⟩

end Go.Proofs.Ytpdhccdmbdbdpaa.XA
