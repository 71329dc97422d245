/- Contracts of the program's functions: each Go function that is named below comes to what its Lean function says. Written by xprint.py (a program of this session's, over the kit's print). Conditions: each contract's own premises. -/
import Derived.Test.YtfemohapampkiaaYCheckDoc0
import Derived.Test.YtfemohapampkiaaYCheckDoc3
namespace Go.Proofs.Ytfemohapampkiaa.XA
open Go.RowKit Go.Proofs.YtfemohapampkiaaW.PrintWords Go.Proofs.YtfemohapampkiaaW.PrintLast Go.Proofs.YtfemohapampkiaaW.PrintMore XW
attribute [local go_sem] max2_int min2_int max_two min_two max_three min_three max_four min_four   -- for this text's walks alone
set_option linter.unusedVariables false
set_option linter.unusedSimpArgs false

/-! ### laws_eqTermS: function 39 -/
def laws_eqTermS.l0 : Nat → List (S111) → List (S111) → Int → Option (Bool)
 | 0, _, _, _ => none
 | k + 1, x0, x1, x5 => if x5 < (x0.length : Int) then (if 0 ≤ x5 then (if x5 < (x1.length : Int) then ((laws_eqTerm.f k ((rd_T111 x0 x5).f0) ((rd_T111 x0 x5).f1) ((rd_T111 x1 x5).f0) ((rd_T111 x1 x5).f1)).bind fun t191 => (if t191 = true then (laws_eqTermS.l0 k x0 x1 (wrap64 (x5 + 1))) else (some false))) else (none)) else (none)) else (some true)
def laws_eqTermS.f (k : Nat) (l0 : List (S111)) (l1 : List (S111)) : Option (Bool) := if (l0.length : Int) = (l1.length : Int) then (laws_eqTermS.l0 k l0 l1 0) else (some false)
def laws_eqTermS.T6 : Bool × List (List Nat × List Nat) := (true, [([], []), ([], []), ([0, 1], [0, 1]), ([2], [2]), ([], []), ([], []), ([4, 5], [4, 5]), ([6], [6]), ([3, 7], [3, 7]), ([8], [8])])
def laws_eqTermS.B6 : List Nat := [0, 0, 3, 7, 0, 0, 48, 112, 255, 511]
theorem laws_eqTermS.tab6 : rtab .any (opsOf Try.f39 6) = laws_eqTermS.T6 := by kernel_rfl
theorem laws_eqTermS.bits6 : waitsOk laws_eqTermS.T6.2 laws_eqTermS.B6 = true := by kernel_rfl
set_option maxHeartbeats 8000000 in
set_option maxRecDepth 100000 in
theorem laws_eqTermS.calls (k : Nat) (A0 : Option Addr) (c0 : Nat) (l0 : List (S111)) (A1 : Option Addr) (c1 : Nat) (l1 : List (S111)) (r : Bool) (w : World) (hr0 : Kd.C k111 w A0 l0.length l0) (hc0 : l0.length ≤ c0) (hr1 : Kd.C k111 w A1 l1.length l1) (hc1 : l1.length ≤ c1) (h : laws_eqTermS.f k l0 l1 = some r) :
  Calls Try.prog 39 #[.slice A0 l0.length c0, .slice A1 l1.length c1] w fun e w' => e = .returned (.bool r) ∧ Below w.heap.size w w' := by
 have hu111 := Try.underlying111
 have HR0 := Aside0.mk hr0
 have HC0 := Aside0.mk hc0
 clear hr0 hc0
 have HR1 := Aside0.mk hr1
 have HC1 := Aside0.mk hc1
 clear hr1 hc1
 have HB := Aside0.mk (Below.refl w.heap.size w)
 have H : (if (l0.length : Int) = (l1.length : Int) then (laws_eqTermS.l0 k l0 l1 0) else (some false)) = some r := h
 clear h
 obtain ⟨c3, H⟩ | ⟨c3, H⟩ := Xiu H
 ·have c3b0 : ((l0.length : Int) == (l1.length : Int)) = true := beq_iff_eq.mpr c3
  have c3b1 : ((l0.length : Int) != (l1.length : Int)) = false := bne_eq_false_iff_eq.mpr c3
  have c3b2 : (l0.length == l1.length) = true := by first | simpa using c3 | (simp at c3 ⊢; omega)
  clear c3
  have H' := Aside0.mk H
  clear H
  go_enter Try.func39, Try.ntmps39
  go_wp2
  go_loopg [5] k (fun kq v5 w' => ∃ (x5_1 : Int), v5 = .int .i64 x5_1 ∧ Aside0 (laws_eqTermS.l0 kq l0 l1 x5_1 = some r) ∧ Aside0 (kq ≤ k) ∧ Aside0 (Below w.heap.size w w'))
  case atStart => exact ⟨(0), Xr, H', Xkr, ⟨Xi⟩⟩
  case round =>
   clear H'
   (try clear c1); (try clear c3); (try clear c3b0); (try clear c3b1); (try clear c3b2)
   obtain ⟨x5_1, rfl, HA, HK1, HB⟩ := hrel
   cases gk with
   | zero => cases HA.out
   | succ k1 =>
    have H := HA.out
    clear HA
    simp only [laws_eqTermS.l0] at H
    obtain ⟨c4b0, H⟩ | ⟨c4b0, H⟩ := Xit H
    ·obtain ⟨c5b0, H⟩ := Xid H
     obtain ⟨c6b0, H⟩ := Xid H
     obtain ⟨t191, A7, H⟩ := Xbi H
     (try dsimp only at H)
     have HC8 := Aside0.mk H
     clear H
     try go_wp2_with (fail)
     replace HB := Aside0.mk (below_drew1 HB.out)
     have p189 : 0 ≤ (x5_1 : Int) := of_decide_eq_true Xa
     have q189 : x5_1 < (l0.length : Int) := of_decide_eq_true Xa
     obtain ⟨ad189, A189_0, c189_0, e189, hx189_0, hx189_1, hl189_0, hi189_0⟩ := at_T111 HR0.out x5_1 p189 q189
     have hw189_1 := hx189_1
     have hw189_0 := hx189_0
     cases e189
     replace hx189_0 := Xm HB hx189_0
     replace hx189_1 := Xm HB hx189_1
     have HR189_0 := Aside0.mk hi189_0
     have HC189_0 := Aside0.mk hl189_0
     clear hi189_0 hl189_0
     replace p189 := eq_true p189
     replace q189 := eq_true q189
     have p190 : 0 ≤ (x5_1 : Int) := of_decide_eq_true Xa
     have q190 : x5_1 < (l1.length : Int) := of_decide_eq_true Xa
     obtain ⟨ad190, A190_0, c190_0, e190, hx190_0, hx190_1, hl190_0, hi190_0⟩ := at_T111 HR1.out x5_1 p190 q190
     have hw190_1 := hx190_1
     have hw190_0 := hx190_0
     cases e190
     replace hx190_0 := Xm HB hx190_0
     replace hx190_1 := Xm HB hx190_1
     have HR190_0 := Aside0.mk hi190_0
     have HC190_0 := Aside0.mk hl190_0
     clear hi190_0 hl190_0
     replace p190 := eq_true p190
     replace q190 := eq_true q190
     refine start_ (n := 10) (S := fun w' => w'.cell? (ad189.add ((x5_1).toNat * 2)) = some (.slice A189_0 ((rd_T111 l0 x5_1).f0).length c189_0) ∧ w'.cell? ⟨(ad189.add ((x5_1).toNat * 2)).block, (ad189.add ((x5_1).toNat * 2)).off + 1, none⟩ = some (.int .i64 ((rd_T111 l0 x5_1).f1)) ∧ w'.cell? (ad190.add ((x5_1).toNat * 2)) = some (.slice A190_0 ((rd_T111 l1 x5_1).f0).length c190_0) ∧ w'.cell? ⟨(ad190.add ((x5_1).toNat * 2)).block, (ad190.add ((x5_1).toNat * 2)).off + 1, none⟩ = some (.int .i64 ((rd_T111 l1 x5_1).f1))) (ds := []) #[false, false, false, false, false, false, false, false, false, false] (by kernel_rfl) rfl rfl ⟨Xn hw189_0, Xn hw189_1, Xn hw190_0, Xn hw190_1⟩ (fun hHeld => ?_); refine with_tabW laws_eqTermS.tab6 laws_eqTermS.bits6 (fun HT_ HW_ => ?_)
     generalize wr.drew = w9 at HB HR189_0 HR190_0 hx189_0 hx189_1 hx190_0 hx190_1 hHeld ⊢
     refine Xpu 0 17 (XW.bs 10 1) HT_.out ?_
     refine Xpu 1 18 (XW.bs 10 3) HT_.out ?_
     refine Xpu 2 19 (XW.bs 10 7) HT_.out ?_
     refine Xpu 4 21 (XW.bs 10 23) HT_.out ?_
     refine Xpu 5 22 (XW.bs 10 55) HT_.out ?_
     refine Xpu 6 23 (XW.bs 10 119) HT_.out ?_
     refine Xta 3 20 (XW.bs 10 127) HT_.out HW_.out hHeld ?_
     refine Xta 7 24 (XW.bs 10 255) HT_.out HW_.out hHeld ?_
     refine one_ (i := 8) (N := some 25) (XW.bs 10 511) rfl rfl (one_of HT_.out (by kernel_rfl)) (by decide) (fun K hK => ?_)
     refine goes_ Try.func89 (by kernel_rfl) rfl #[.agg #[.slice A189_0 ((rd_T111 l0 x5_1).f0).length c189_0, .int .i64 ((rd_T111 l0 x5_1).f1)], .agg #[.slice A190_0 ((rd_T111 l1 x5_1).f0).length c190_0, .int .i64 ((rd_T111 l1 x5_1).f1)]] (by rfl) rfl rfl (by (try simp only [List.map_toArray, List.map_cons, List.map_nil]); first | done | rfl | (simp only [List.length_drop, List.length_take]; rfl)) ?_
     with_reducible refine (laws_eqTerm.calls k1 _ _ ((rd_T111 l0 x5_1).f0) ((rd_T111 l0 x5_1).f1) _ _ ((rd_T111 l1 x5_1).f0) ((rd_T111 l1 x5_1).f1) t191 _ ?side1 ?side2 ?side3 ?side4 A7.out).mono ?_
     (case side1 => exact Xc HR189_0)
     (case side2 => exact HC189_0.out)
     (case side3 => exact Xc HR190_0)
     (case side4 => exact HC190_0.out)
     rintro e w10 ⟨rfl, hb⟩
     refine ⟨_, rfl, ?_⟩
     replace HB := Aside0.mk (below_step Xi hb)
     (try clear hb)
     (try clear hb2)
     (try clear hk)
     (try clear hi)
     refine hK.out _ _ ⟨Xn hw189_0, Xn hw189_1, Xn hw190_0, Xn hw190_1⟩ (fun hHeld => ?_)
     clear hK K
     refine Xno ?_
     refine Xpu 9 26 (XW.bs 10 1023) HT_.out ?_
     refine done_ (done_of HT_.out (by kernel_rfl)) ?_
     go_upto_if 26 with (fail)
     have H := HC8.out
     clear HC8
     by_cases c11 : t191 = true
     ·subst c11
      (first | rw [if_pos rfl] at H | skip)
      have H' := Aside0.mk H
      clear H
      go_wp2
      go_roundg k1
      case measure => have := HK1.out; omega
      case rel => exact ⟨(wrap64 (x5_1 + 1)), Xr, H', Xk1, ⟨Xi⟩⟩
     ·replace c11 := Bool.eq_false_iff.mpr c11
      subst c11
      (first | rw [if_neg (show ¬ (false = true) by decide)] at H | skip)
      obtain rfl := Option.some.inj H
      go_wp2
      go_ret
      exact ⟨Xe, Xi⟩
    ·obtain rfl := Option.some.inj H
     go_wp2
     go_ret
     exact ⟨Xe, Xi⟩
 ·have c3b0 : ((l0.length : Int) == (l1.length : Int)) = false := beq_eq_false_iff_ne.mpr c3
  have c3b1 : ((l0.length : Int) != (l1.length : Int)) = true := bne_iff_ne.mpr c3
  have c3b2 : (l0.length == l1.length) = false := by first | simpa using c3 | (simp at c3 ⊢; omega)
  obtain rfl := Option.some.inj H
  go_enter Try.func39, Try.ntmps39
  go_wp2
  go_ret
  exact ⟨Xe, Xi⟩

/-! ### laws_eqRule: function 95 -/
def laws_eqRule.f (k : Nat) (a0_0 : ByteArray) (a0_1 : Bool) (l0_2 : List (S111)) (a1_0 : ByteArray) (a1_1 : Bool) (l1_2 : List (S111)) : Option (Bool) := if a0_0.toList = a1_0.toList then (if (a0_1 != a1_1) = true then (some false) else ((laws_eqTermS.f k l0_2 l1_2).bind fun t194 => (if t194 = true then (some true) else (some false)))) else (some false)
set_option maxHeartbeats 8000000 in
set_option maxRecDepth 100000 in
theorem laws_eqRule.calls (k : Nat) (a0_0 : ByteArray) (a0_1 : Bool) (A0_2 : Option Addr) (c0_2 : Nat) (l0_2 : List (S111)) (a1_0 : ByteArray) (a1_1 : Bool) (A1_2 : Option Addr) (c1_2 : Nat) (l1_2 : List (S111)) (r : Bool) (w : World) (hr0_2 : Kd.C k111 w A0_2 l0_2.length l0_2) (hc0_2 : l0_2.length ≤ c0_2) (hr1_2 : Kd.C k111 w A1_2 l1_2.length l1_2) (hc1_2 : l1_2.length ≤ c1_2) (h : laws_eqRule.f k a0_0 a0_1 l0_2 a1_0 a1_1 l1_2 = some r) :
  Calls Try.prog 95 #[.agg #[.string a0_0, .bool a0_1, .slice A0_2 l0_2.length c0_2], .agg #[.string a1_0, .bool a1_1, .slice A1_2 l1_2.length c1_2]] w fun e w' => e = .returned (.bool r) ∧ Below w.heap.size w w' := by
 have hu120 := Try.underlying120
 have HR0_2 := Aside0.mk hr0_2
 have HC0_2 := Aside0.mk hc0_2
 clear hr0_2 hc0_2
 have HR1_2 := Aside0.mk hr1_2
 have HC1_2 := Aside0.mk hc1_2
 clear hr1_2 hc1_2
 have HB := Aside0.mk (Below.refl w.heap.size w)
 have H : (if a0_0.toList = a1_0.toList then (if (a0_1 != a1_1) = true then (some false) else ((laws_eqTermS.f k l0_2 l1_2).bind fun t194 => (if t194 = true then (some true) else (some false)))) else (some false)) = some r := h
 clear h
 have HC3 := Aside0.mk H
 clear H
 go_enter Try.func95, Try.ntmps95
 go_upto_if 9 with (first | ((with_reducible refine gate_dst (N := 2) rfl ?_); refine Xbox 2 #[.string a0_0, .bool a0_1, .slice A0_2 l0_2.length c0_2] 120 ?_; intro gb192 hg w4 hbox hb; have BK192 := Aside0.mk (hbox); have GE192 := Xge hg Xi; replace HB := Aside0.mk (below_step Xi hb); clear hb hbox hg) | ((with_reducible refine gate_dst (N := 3) rfl ?_); refine Xbox 3 #[.string a1_0, .bool a1_1, .slice A1_2 l1_2.length c1_2] 120 ?_; intro gb193 hg w5 hbox hb; have BK193 := Aside0.mk (hbox); have GE193 := Xge hg Xi; replace HB := Aside0.mk (below_step Xi hb); have NB192_193 := Xnb hg BK192; have NB193_192 := Xns NB192_193; replace BK192 := Xbb BK192 hb; clear hb hbox hg; have hnb6 := NB192_193.out; have hnc6 := NB193_192.out; obtain ⟨hcz7_0, hcz7_1, hcz7_2⟩ := Xc3 BK192; obtain ⟨hcz8_0, hcz8_1, hcz8_2⟩ := Xc3 BK193))
 have H := HC3.out
 clear HC3
 obtain ⟨c9, H⟩ | ⟨c9, H⟩ := Xiu H
 ·have c9b0 : (a0_0.toList == a1_0.toList) = true := beq_iff_eq.mpr c9
  have c9b1 : (a0_0.toList != a1_0.toList) = false := bne_eq_false_iff_eq.mpr c9
  clear c9
  (first | rw [c9b0] | (simp only [i64_w, i32_w]; rw [c9b0]) | skip)
  obtain ⟨c10, H⟩ | ⟨c10, H⟩ := Xiu H
  ·have c10b0 : (a0_1 != a1_1) = true := c10
   (try (have c10b1 : decide (a0_1 = a1_1) = false := by simpa using c10))
   (try (have c10b2 : (a0_1 == a1_1) = false := by simpa using c10))
   (try (have c10b3 : ¬ (a0_1 = a1_1) := by simpa using c10))
   (try (have c10b4 : ((!a0_1) == a1_1) = true := by revert c10; cases a0_1 <;> cases a1_1 <;> simp))
   clear c10
   obtain rfl := Option.some.inj H
   have hnb11 := NB192_193.out
   have hnc11 := NB193_192.out
   obtain ⟨hcz12_0, hcz12_1, hcz12_2⟩ := Xc3 BK192
   obtain ⟨hcz13_0, hcz13_1, hcz13_2⟩ := Xc3 BK193
   go_wp2
   go_ret
   exact ⟨Xe, Xi⟩
  ·have c10b0 : (a0_1 != a1_1) = false := by simpa using c10
   (try (have c10b1 : decide (a0_1 = a1_1) = true := by simpa using c10))
   (try (have c10b2 : (a0_1 == a1_1) = true := by simpa using c10))
   (try (have c10b3 : ((!a0_1) == a1_1) = false := by revert c10; cases a0_1 <;> cases a1_1 <;> simp))
   clear c10
   obtain ⟨t194, A14, H⟩ := Xbi H
   (try dsimp only at H)
   have HC15 := Aside0.mk H
   clear H
   have hnb16 := NB192_193.out
   have hnc16 := NB193_192.out
   obtain ⟨hcz17_0, hcz17_1, hcz17_2⟩ := Xc3 BK192
   obtain ⟨hcz18_0, hcz18_1, hcz18_2⟩ := Xc3 BK193
   go_upto_if 20 with (first | ((with_reducible refine gate_callee (f := 39) rfl ?_); refine Xgo 19 Try.func39 #[.slice A0_2 l0_2.length c0_2, .slice A1_2 l1_2.length c1_2] ?_; (with_reducible refine (laws_eqTermS.calls k _ _ l0_2 _ _ l1_2 t194 _ ?side1 ?side2 ?side3 ?side4 A14.out).mono ?_); (case side1 => exact Xc HR0_2); (case side2 => exact HC0_2.out); (case side3 => exact Xc HR1_2); (case side4 => exact HC1_2.out); rintro e w19 ⟨rfl, hb⟩; refine ⟨_, rfl, ?_⟩; replace BK192 := Xbb BK192 hb; replace BK193 := Xbb BK193 hb; replace HB := Aside0.mk (below_step Xi hb); clear hb))
   have H := HC15.out
   clear HC15
   by_cases c20 : t194 = true
   ·subst c20
    (first | rw [if_pos rfl] at H | skip)
    obtain rfl := Option.some.inj H
    go_wp2
    go_ret
    exact ⟨Xe, Xi⟩
   ·replace c20 := Bool.eq_false_iff.mpr c20
    subst c20
    (first | rw [if_neg (show ¬ (false = true) by decide)] at H | skip)
    obtain rfl := Option.some.inj H
    go_wp2
    go_ret
    exact ⟨Xe, Xi⟩
 ·have c9b0 : (a0_0.toList == a1_0.toList) = false := beq_eq_false_iff_ne.mpr c9
  have c9b1 : (a0_0.toList != a1_0.toList) = true := bne_iff_ne.mpr c9
  (first | rw [c9b0] | (simp only [i64_w, i32_w]; rw [c9b0]) | skip)
  obtain rfl := Option.some.inj H
  go_wp2
  go_ret
  exact ⟨Xe, Xi⟩

/-! ### laws_eqRuleS: function 44 -/
def laws_eqRuleS.l0 : Nat → List (S120) → List (S120) → Int → Option (Bool)
 | 0, _, _, _ => none
 | k + 1, x0, x1, x5 => if x5 < (x0.length : Int) then (if 0 ≤ x5 then (if x5 < (x1.length : Int) then ((laws_eqRule.f k ((rd_T120 x0 x5).f0) ((rd_T120 x0 x5).f1) ((rd_T120 x0 x5).f2) ((rd_T120 x1 x5).f0) ((rd_T120 x1 x5).f1) ((rd_T120 x1 x5).f2)).bind fun t197 => (if t197 = true then (laws_eqRuleS.l0 k x0 x1 (wrap64 (x5 + 1))) else (some false))) else (none)) else (none)) else (some true)
def laws_eqRuleS.f (k : Nat) (l0 : List (S120)) (l1 : List (S120)) : Option (Bool) := if (l0.length : Int) = (l1.length : Int) then (laws_eqRuleS.l0 k l0 l1 0) else (some false)
def laws_eqRuleS.T6 : Bool × List (List Nat × List Nat) := (true, [([], []), ([], []), ([0, 1], [0, 1]), ([2], [2]), ([], []), ([], []), ([4, 5], [4, 5]), ([6], [6]), ([3, 7], [3, 7]), ([8], [8])])
def laws_eqRuleS.B6 : List Nat := [0, 0, 3, 7, 0, 0, 48, 112, 255, 511]
theorem laws_eqRuleS.tab6 : rtab .any (opsOf Try.f44 6) = laws_eqRuleS.T6 := by kernel_rfl
theorem laws_eqRuleS.bits6 : waitsOk laws_eqRuleS.T6.2 laws_eqRuleS.B6 = true := by kernel_rfl
set_option maxHeartbeats 8000000 in
set_option maxRecDepth 100000 in
theorem laws_eqRuleS.calls (k : Nat) (A0 : Option Addr) (c0 : Nat) (l0 : List (S120)) (A1 : Option Addr) (c1 : Nat) (l1 : List (S120)) (r : Bool) (w : World) (hr0 : Kd.C k120 w A0 l0.length l0) (hc0 : l0.length ≤ c0) (hr1 : Kd.C k120 w A1 l1.length l1) (hc1 : l1.length ≤ c1) (h : laws_eqRuleS.f k l0 l1 = some r) :
  Calls Try.prog 44 #[.slice A0 l0.length c0, .slice A1 l1.length c1] w fun e w' => e = .returned (.bool r) ∧ Below w.heap.size w w' := by
 have hu120 := Try.underlying120
 have HR0 := Aside0.mk hr0
 have HC0 := Aside0.mk hc0
 clear hr0 hc0
 have HR1 := Aside0.mk hr1
 have HC1 := Aside0.mk hc1
 clear hr1 hc1
 have HB := Aside0.mk (Below.refl w.heap.size w)
 have H : (if (l0.length : Int) = (l1.length : Int) then (laws_eqRuleS.l0 k l0 l1 0) else (some false)) = some r := h
 clear h
 obtain ⟨c3, H⟩ | ⟨c3, H⟩ := Xiu H
 ·have c3b0 : ((l0.length : Int) == (l1.length : Int)) = true := beq_iff_eq.mpr c3
  have c3b1 : ((l0.length : Int) != (l1.length : Int)) = false := bne_eq_false_iff_eq.mpr c3
  have c3b2 : (l0.length == l1.length) = true := by first | simpa using c3 | (simp at c3 ⊢; omega)
  clear c3
  have H' := Aside0.mk H
  clear H
  go_enter Try.func44, Try.ntmps44
  go_wp2
  go_loopg [5] k (fun kq v5 w' => ∃ (x5_1 : Int), v5 = .int .i64 x5_1 ∧ Aside0 (laws_eqRuleS.l0 kq l0 l1 x5_1 = some r) ∧ Aside0 (kq ≤ k) ∧ Aside0 (Below w.heap.size w w'))
  case atStart => exact ⟨(0), Xr, H', Xkr, ⟨Xi⟩⟩
  case round =>
   clear H'
   (try clear c1); (try clear c3); (try clear c3b0); (try clear c3b1); (try clear c3b2)
   obtain ⟨x5_1, rfl, HA, HK1, HB⟩ := hrel
   cases gk with
   | zero => cases HA.out
   | succ k1 =>
    have H := HA.out
    clear HA
    simp only [laws_eqRuleS.l0] at H
    obtain ⟨c4b0, H⟩ | ⟨c4b0, H⟩ := Xit H
    ·obtain ⟨c5b0, H⟩ := Xid H
     obtain ⟨c6b0, H⟩ := Xid H
     obtain ⟨t197, A7, H⟩ := Xbi H
     (try dsimp only at H)
     have HC8 := Aside0.mk H
     clear H
     try go_wp2_with (fail)
     replace HB := Aside0.mk (below_drew1 HB.out)
     have p195 : 0 ≤ (x5_1 : Int) := of_decide_eq_true Xa
     have q195 : x5_1 < (l0.length : Int) := of_decide_eq_true Xa
     obtain ⟨ad195, A195_2, c195_2, e195, hx195_0, hx195_1, hx195_2, hl195_2, hi195_2⟩ := at_T120 HR0.out x5_1 p195 q195
     have hw195_2 := hx195_2
     have hw195_1 := hx195_1
     have hw195_0 := hx195_0
     cases e195
     replace hx195_0 := Xm HB hx195_0
     replace hx195_1 := Xm HB hx195_1
     replace hx195_2 := Xm HB hx195_2
     have HR195_2 := Aside0.mk hi195_2
     have HC195_2 := Aside0.mk hl195_2
     clear hi195_2 hl195_2
     replace p195 := eq_true p195
     replace q195 := eq_true q195
     have p196 : 0 ≤ (x5_1 : Int) := of_decide_eq_true Xa
     have q196 : x5_1 < (l1.length : Int) := of_decide_eq_true Xa
     obtain ⟨ad196, A196_2, c196_2, e196, hx196_0, hx196_1, hx196_2, hl196_2, hi196_2⟩ := at_T120 HR1.out x5_1 p196 q196
     have hw196_2 := hx196_2
     have hw196_1 := hx196_1
     have hw196_0 := hx196_0
     cases e196
     replace hx196_0 := Xm HB hx196_0
     replace hx196_1 := Xm HB hx196_1
     replace hx196_2 := Xm HB hx196_2
     have HR196_2 := Aside0.mk hi196_2
     have HC196_2 := Aside0.mk hl196_2
     clear hi196_2 hl196_2
     replace p196 := eq_true p196
     replace q196 := eq_true q196
     refine start_ (n := 10) (S := fun w' => w'.cell? (ad195.add ((x5_1).toNat * 3)) = some (.string ((rd_T120 l0 x5_1).f0)) ∧ w'.cell? ⟨(ad195.add ((x5_1).toNat * 3)).block, (ad195.add ((x5_1).toNat * 3)).off + 1, none⟩ = some (.bool ((rd_T120 l0 x5_1).f1)) ∧ w'.cell? ⟨(ad195.add ((x5_1).toNat * 3)).block, (ad195.add ((x5_1).toNat * 3)).off + 2, none⟩ = some (.slice A195_2 ((rd_T120 l0 x5_1).f2).length c195_2) ∧ w'.cell? (ad196.add ((x5_1).toNat * 3)) = some (.string ((rd_T120 l1 x5_1).f0)) ∧ w'.cell? ⟨(ad196.add ((x5_1).toNat * 3)).block, (ad196.add ((x5_1).toNat * 3)).off + 1, none⟩ = some (.bool ((rd_T120 l1 x5_1).f1)) ∧ w'.cell? ⟨(ad196.add ((x5_1).toNat * 3)).block, (ad196.add ((x5_1).toNat * 3)).off + 2, none⟩ = some (.slice A196_2 ((rd_T120 l1 x5_1).f2).length c196_2)) (ds := []) #[false, false, false, false, false, false, false, false, false, false] (by kernel_rfl) rfl rfl ⟨Xn hw195_0, Xn hw195_1, Xn hw195_2, Xn hw196_0, Xn hw196_1, Xn hw196_2⟩ (fun hHeld => ?_); refine with_tabW laws_eqRuleS.tab6 laws_eqRuleS.bits6 (fun HT_ HW_ => ?_)
     generalize wr.drew = w9 at HB HR195_2 HR196_2 hx195_0 hx195_1 hx195_2 hx196_0 hx196_1 hx196_2 hHeld ⊢
     refine Xpu 0 17 (XW.bs 10 1) HT_.out ?_
     refine Xpu 1 18 (XW.bs 10 3) HT_.out ?_
     refine Xpu 2 19 (XW.bs 10 7) HT_.out ?_
     refine Xpu 4 21 (XW.bs 10 23) HT_.out ?_
     refine Xpu 5 22 (XW.bs 10 55) HT_.out ?_
     refine Xpu 6 23 (XW.bs 10 119) HT_.out ?_
     refine Xta 3 20 (XW.bs 10 127) HT_.out HW_.out hHeld ?_
     refine Xta 7 24 (XW.bs 10 255) HT_.out HW_.out hHeld ?_
     refine one_ (i := 8) (N := some 25) (XW.bs 10 511) rfl rfl (one_of HT_.out (by kernel_rfl)) (by decide) (fun K hK => ?_)
     refine goes_ Try.func95 (by kernel_rfl) rfl #[.agg #[.string ((rd_T120 l0 x5_1).f0), .bool ((rd_T120 l0 x5_1).f1), .slice A195_2 ((rd_T120 l0 x5_1).f2).length c195_2], .agg #[.string ((rd_T120 l1 x5_1).f0), .bool ((rd_T120 l1 x5_1).f1), .slice A196_2 ((rd_T120 l1 x5_1).f2).length c196_2]] (by rfl) rfl rfl (by (try simp only [List.map_toArray, List.map_cons, List.map_nil]); first | done | rfl | (simp only [List.length_drop, List.length_take]; rfl)) ?_
     with_reducible refine (laws_eqRule.calls k1 ((rd_T120 l0 x5_1).f0) ((rd_T120 l0 x5_1).f1) _ _ ((rd_T120 l0 x5_1).f2) ((rd_T120 l1 x5_1).f0) ((rd_T120 l1 x5_1).f1) _ _ ((rd_T120 l1 x5_1).f2) t197 _ ?side1 ?side2 ?side3 ?side4 A7.out).mono ?_
     (case side1 => exact Xc HR195_2)
     (case side2 => exact HC195_2.out)
     (case side3 => exact Xc HR196_2)
     (case side4 => exact HC196_2.out)
     rintro e w10 ⟨rfl, hb⟩
     refine ⟨_, rfl, ?_⟩
     replace HB := Aside0.mk (below_step Xi hb)
     (try clear hb)
     (try clear hb2)
     (try clear hk)
     (try clear hi)
     refine hK.out _ _ ⟨Xn hw195_0, Xn hw195_1, Xn hw195_2, Xn hw196_0, Xn hw196_1, Xn hw196_2⟩ (fun hHeld => ?_)
     clear hK K
     refine Xno ?_
     refine Xpu 9 26 (XW.bs 10 1023) HT_.out ?_
     refine done_ (done_of HT_.out (by kernel_rfl)) ?_
     go_upto_if 26 with (fail)
     have H := HC8.out
     clear HC8
     by_cases c11 : t197 = true
     ·subst c11
      (first | rw [if_pos rfl] at H | skip)
      have H' := Aside0.mk H
      clear H
      go_wp2
      go_roundg k1
      case measure => have := HK1.out; omega
      case rel => exact ⟨(wrap64 (x5_1 + 1)), Xr, H', Xk1, ⟨Xi⟩⟩
     ·replace c11 := Bool.eq_false_iff.mpr c11
      subst c11
      (first | rw [if_neg (show ¬ (false = true) by decide)] at H | skip)
      obtain rfl := Option.some.inj H
      go_wp2
      go_ret
      exact ⟨Xe, Xi⟩
    ·obtain rfl := Option.some.inj H
     go_wp2
     go_ret
     exact ⟨Xe, Xi⟩
 ·have c3b0 : ((l0.length : Int) == (l1.length : Int)) = false := beq_eq_false_iff_ne.mpr c3
  have c3b1 : ((l0.length : Int) != (l1.length : Int)) = true := bne_iff_ne.mpr c3
  have c3b2 : (l0.length == l1.length) = false := by first | simpa using c3 | (simp at c3 ⊢; omega)
  obtain rfl := Option.some.inj H
  go_enter Try.func44, Try.ntmps44
  go_wp2
  go_ret
  exact ⟨Xe, Xi⟩

/-! ### spec_l01In: function 116 -/
def spec_l01In.f (a0 : Int) (a1 : Int) (a2 : Int) : Option (Bool) := if a0 ≥ a1 then (some (decide (a0 ≤ a2))) else (some false)
set_option maxHeartbeats 8000000 in
set_option maxRecDepth 100000 in
theorem spec_l01In.calls (a0 : Int) (a1 : Int) (a2 : Int) (r : Bool) (w : World) (h : spec_l01In.f a0 a1 a2 = some r) :
  Calls Try.prog 116 #[.int .i64 a0, .int .i64 a1, .int .i64 a2] w fun e w' => e = .returned (.bool r) ∧ Drawn0 w w' := by
 have H : (if a0 ≥ a1 then (some (decide (a0 ≤ a2))) else (some false)) = some r := h
 clear h
 obtain ⟨c4, H⟩ | ⟨c4, H⟩ := Xiu H
 ·have c4b0 : decide (a1 ≤ a0) = true := decide_eq_true c4
  clear c4
  obtain rfl := Option.some.inj H
  go_enter Try.func116, Try.ntmps116
  go_wp2
  go_ret
  exact ⟨Xr, Xdr⟩
 ·have c4b0 : decide (a1 ≤ a0) = false := decide_eq_false c4
  clear c4
  obtain rfl := Option.some.inj H
  go_enter Try.func116, Try.ntmps116
  go_wp2
  go_ret
  exact ⟨Xr, Xdr⟩

end Go.Proofs.Ytfemohapampkiaa.XA
