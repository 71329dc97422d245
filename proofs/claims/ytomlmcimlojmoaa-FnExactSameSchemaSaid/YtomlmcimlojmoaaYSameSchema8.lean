/- Contracts of the program's functions: each Go function that is named below comes to what its Lean function says. Written by xprint.py (a program of this session's, over the kit's print). Conditions: each contract's own premises. -/
import Derived.Test.YtomlmcimlojmoaaYSameSchema0
namespace Go.Proofs.Ytomlmcimlojmoaa.XA
open Go.RowKit Go.Proofs.YtomlmcimlojmoaaW.PrintWords Go.Proofs.YtomlmcimlojmoaaW.PrintLast Go.Proofs.YtomlmcimlojmoaaW.PrintMore XW
attribute [local go_sem] max2_int min2_int max_two min_two max_three min_three max_four min_four   -- for this text's walks alone
set_option linter.unusedVariables false
set_option linter.unusedSimpArgs false

/-! ### laws_eqIntS: function 33 -/
def laws_eqIntS.l0 : Nat → List Int → List Int → Int → Option (Bool)
 | 0, _, _, _ => none
 | k + 1, x0, x1, x5 => if x5 < (x0.length : Int) then (if 0 ≤ x5 then (if x5 < (x1.length : Int) then (if (rd x0 x5) = (rd x1 x5) then (laws_eqIntS.l0 k x0 x1 (wrap64 (x5 + 1))) else (some false)) else (none)) else (none)) else (some true)
def laws_eqIntS.f (k : Nat) (l0 : List Int) (l1 : List Int) : Option (Bool) := if (l0.length : Int) = (l1.length : Int) then (laws_eqIntS.l0 k l0 l1 0) else (some false)
set_option maxHeartbeats 8000000 in
set_option maxRecDepth 100000 in
theorem laws_eqIntS.calls (k : Nat) (A0 : Option Addr) (c0 : Nat) (l0 : List Int) (A1 : Option Addr) (c1 : Nat) (l1 : List Int) (r : Bool) (w : World) (hr0 : Kd.C (Kd.int .i64) w A0 l0.length l0) (hc0 : l0.length ≤ c0) (hr1 : Kd.C (Kd.int .i64) w A1 l1.length l1) (hc1 : l1.length ≤ c1) (h : laws_eqIntS.f k l0 l1 = some r) :
  Calls Try.prog 33 #[.slice A0 l0.length c0, .slice A1 l1.length c1] w fun e w' => e = .returned (.bool r) ∧ Drawn0 w w' := by
 have HR0 := Aside0.mk hr0
 have HC0 := Aside0.mk hc0
 clear hr0 hc0
 have HR1 := Aside0.mk hr1
 have HC1 := Aside0.mk hc1
 clear hr1 hc1
 have H : (if (l0.length : Int) = (l1.length : Int) then (laws_eqIntS.l0 k l0 l1 0) else (some false)) = some r := h
 clear h
 obtain ⟨c3, H⟩ | ⟨c3, H⟩ := Xiu H
 ·have c3b0 : ((l0.length : Int) == (l1.length : Int)) = true := beq_iff_eq.mpr c3
  have c3b1 : ((l0.length : Int) != (l1.length : Int)) = false := bne_eq_false_iff_eq.mpr c3
  have c3b2 : (l0.length == l1.length) = true := by first | simpa using c3 | (simp at c3 ⊢; omega)
  clear c3
  have H' := Aside0.mk H
  clear H
  go_enter Try.func33, Try.ntmps33
  go_wp2
  repeat (go_quiet (fail); try go_wp2)
  go_loopg [5] k (fun kq v5 w' => ∃ (x5_1 : Int), v5 = .int .i64 x5_1 ∧ Aside0 (laws_eqIntS.l0 kq l0 l1 x5_1 = some r) ∧ Aside0 (kq ≤ k) ∧ Drawn0 w w')
  case atStart => exact ⟨(0), Xr, H', Xkr, by repeat (first | exact Drawn0.refl _ | apply Drawn0.step)⟩
  case round =>
   clear H'
   (try clear c1); (try clear c3); (try clear c3b0); (try clear c3b1); (try clear c3b2)
   obtain ⟨x5_1, rfl, HA, HK1, ⟨m1, rfl⟩⟩ := hrel
   cases gk with
   | zero => cases HA.out
   | succ k1 =>
    have H := HA.out
    clear HA
    simp only [laws_eqIntS.l0] at H
    obtain ⟨c4b0, H⟩ | ⟨c4b0, H⟩ := Xit H
    ·obtain ⟨c5b0, H⟩ := Xid H
     obtain ⟨c6b0, H⟩ := Xid H
     obtain ⟨c7, H⟩ | ⟨c7, H⟩ := Xiu H
     ·have c7b0 : ((rd l0 x5_1) == (rd l1 x5_1)) = true := beq_iff_eq.mpr c7
      have c7b1 : ((rd l0 x5_1) != (rd l1 x5_1)) = false := bne_eq_false_iff_eq.mpr c7
      clear c7
      have H' := Aside0.mk H
      clear H
      have p263 : 0 ≤ (x5_1 : Int) := of_decide_eq_true Xa
      have q263 : x5_1 < (l0.length : Int) := of_decide_eq_true Xa
      obtain ⟨ad263, e263, hx263_0⟩ := Kd.at_int HR0.out x5_1 p263 q263
      cases e263
      replace p263 := eq_true p263
      replace q263 := eq_true q263
      have p264 : 0 ≤ (x5_1 : Int) := of_decide_eq_true Xa
      have q264 : x5_1 < (l1.length : Int) := of_decide_eq_true Xa
      obtain ⟨ad264, e264, hx264_0⟩ := Kd.at_int HR1.out x5_1 p264 q264
      cases e264
      replace p264 := eq_true p264
      replace q264 := eq_true q264
      go_wp2
      repeat (go_quiet (fail); try go_wp2)
      go_roundg k1
      case measure => have := HK1.out; omega
      case rel => exact ⟨(wrap64 (x5_1 + 1)), Xr, H', Xk1, by repeat (first | exact Drawn0.refl _ | apply Drawn0.step)⟩
     ·have c7b0 : ((rd l0 x5_1) == (rd l1 x5_1)) = false := beq_eq_false_iff_ne.mpr c7
      have c7b1 : ((rd l0 x5_1) != (rd l1 x5_1)) = true := bne_iff_ne.mpr c7
      obtain rfl := Option.some.inj H
      have p263 : 0 ≤ (x5_1 : Int) := of_decide_eq_true Xa
      have q263 : x5_1 < (l0.length : Int) := of_decide_eq_true Xa
      obtain ⟨ad263, e263, hx263_0⟩ := Kd.at_int HR0.out x5_1 p263 q263
      cases e263
      replace p263 := eq_true p263
      replace q263 := eq_true q263
      have p264 : 0 ≤ (x5_1 : Int) := of_decide_eq_true Xa
      have q264 : x5_1 < (l1.length : Int) := of_decide_eq_true Xa
      obtain ⟨ad264, e264, hx264_0⟩ := Kd.at_int HR1.out x5_1 p264 q264
      cases e264
      replace p264 := eq_true p264
      replace q264 := eq_true q264
      go_wp2
      repeat (go_quiet (fail); try go_wp2)
      go_ret
      exact ⟨Xr, Xdr⟩
    ·obtain rfl := Option.some.inj H
     go_wp2
     repeat (go_quiet (fail); try go_wp2)
     go_ret
     exact ⟨Xr, Xdr⟩
 ·have c3b0 : ((l0.length : Int) == (l1.length : Int)) = false := beq_eq_false_iff_ne.mpr c3
  have c3b1 : ((l0.length : Int) != (l1.length : Int)) = true := bne_iff_ne.mpr c3
  have c3b2 : (l0.length == l1.length) = false := by first | simpa using c3 | (simp at c3 ⊢; omega)
  obtain rfl := Option.some.inj H
  go_enter Try.func33, Try.ntmps33
  go_wp2
  repeat (go_quiet (fail); try go_wp2)
  go_ret
  exact ⟨Xr, Xdr⟩

/-! ### laws_eqTerm: function 65 -/
def laws_eqTerm.f (k : Nat) (l0_0 : List Int) (a0_1 : Int) (l1_0 : List Int) (a1_1 : Int) : Option (Bool) := (laws_eqIntS.f k l0_0 l1_0).bind fun t267 => (if t267 = true then (if a0_1 = a1_1 then (some true) else (some false)) else (some false))
set_option maxHeartbeats 8000000 in
set_option maxRecDepth 100000 in
theorem laws_eqTerm.calls (k : Nat) (A0_0 : Option Addr) (c0_0 : Nat) (l0_0 : List Int) (a0_1 : Int) (A1_0 : Option Addr) (c1_0 : Nat) (l1_0 : List Int) (a1_1 : Int) (r : Bool) (w : World) (hr0_0 : Kd.C (Kd.int .i64) w A0_0 l0_0.length l0_0) (hc0_0 : l0_0.length ≤ c0_0) (hr1_0 : Kd.C (Kd.int .i64) w A1_0 l1_0.length l1_0) (hc1_0 : l1_0.length ≤ c1_0) (h : laws_eqTerm.f k l0_0 a0_1 l1_0 a1_1 = some r) :
  Calls Try.prog 65 #[.agg #[.slice A0_0 l0_0.length c0_0, .int .i64 a0_1], .agg #[.slice A1_0 l1_0.length c1_0, .int .i64 a1_1]] w fun e w' => e = .returned (.bool r) ∧ Below w.heap.size w w' := by
 have hu89 := Try.underlying89
 have HR0_0 := Aside0.mk hr0_0
 have HC0_0 := Aside0.mk hc0_0
 clear hr0_0 hc0_0
 have HR1_0 := Aside0.mk hr1_0
 have HC1_0 := Aside0.mk hc1_0
 clear hr1_0 hc1_0
 have HB := Aside0.mk (Below.refl w.heap.size w)
 have H : ((laws_eqIntS.f k l0_0 l1_0).bind fun t267 => (if t267 = true then (if a0_1 = a1_1 then (some true) else (some false)) else (some false))) = some r := h
 clear h
 obtain ⟨t267, A3, H⟩ := Xbi H
 (try dsimp only at H)
 have HC4 := Aside0.mk H
 clear H
 go_enter Try.func65, Try.ntmps65
 go_upto_if 10 with (first | ((with_reducible refine gate_dst (N := 2) rfl ?_); refine Xbox 2 #[.slice A0_0 l0_0.length c0_0, .int .i64 a0_1] 89 ?_; intro gb265 hg w5 hbox hb; have BK265 := Aside0.mk (hbox); have GE265 := Xge hg Xi; replace HB := Aside0.mk (below_step Xi hb); clear hb hbox hg) | ((with_reducible refine gate_dst (N := 3) rfl ?_); refine Xbox 3 #[.slice A1_0 l1_0.length c1_0, .int .i64 a1_1] 89 ?_; intro gb266 hg w6 hbox hb; have BK266 := Aside0.mk (hbox); have GE266 := Xge hg Xi; replace HB := Aside0.mk (below_step Xi hb); have NB265_266 := Xnb hg BK265; have NB266_265 := Xns NB265_266; replace BK265 := Xbb BK265 hb; clear hb hbox hg; have hnb7 := NB265_266.out; have hnc7 := NB266_265.out; obtain ⟨hcz8_0, hcz8_1⟩ := Xc2 BK265; obtain ⟨hcz9_0, hcz9_1⟩ := Xc2 BK266) | ((with_reducible refine gate_callee (f := 33) rfl ?_); refine Xgo 9 Try.func33 #[.slice A0_0 l0_0.length c0_0, .slice A1_0 l1_0.length c1_0] ?_; (with_reducible refine (laws_eqIntS.calls k _ _ l0_0 _ _ l1_0 t267 _ ?side1 ?side2 ?side3 ?side4 A3.out).mono ?_); (case side1 => exact Xc HR0_0); (case side2 => exact HC0_0.out); (case side3 => exact Xc HR1_0); (case side4 => exact HC1_0.out); rintro e w' ⟨rfl, ⟨nd, rfl⟩⟩; refine ⟨_, rfl, ?_⟩))
 have H := HC4.out
 clear HC4
 by_cases c10 : t267 = true
 ·subst c10
  (first | rw [if_pos rfl] at H | skip)
  obtain ⟨c11, H⟩ | ⟨c11, H⟩ := Xiu H
  ·have c11b0 : (a0_1 == a1_1) = true := beq_iff_eq.mpr c11
   have c11b1 : (a0_1 != a1_1) = false := bne_eq_false_iff_eq.mpr c11
   clear c11
   (first | rw [c11b0] | (simp only [i64_w, i32_w]; rw [c11b0]) | skip)
   obtain rfl := Option.some.inj H
   have hnb12 := NB265_266.out
   have hnc12 := NB266_265.out
   obtain ⟨hcz13_0, hcz13_1⟩ := Xc2 BK265
   obtain ⟨hcz14_0, hcz14_1⟩ := Xc2 BK266
   go_wp2
   go_ret
   exact ⟨Xe, Xi⟩
  ·have c11b0 : (a0_1 == a1_1) = false := beq_eq_false_iff_ne.mpr c11
   have c11b1 : (a0_1 != a1_1) = true := bne_iff_ne.mpr c11
   (first | rw [c11b0] | (simp only [i64_w, i32_w]; rw [c11b0]) | skip)
   obtain rfl := Option.some.inj H
   have hnb15 := NB265_266.out
   have hnc15 := NB266_265.out
   obtain ⟨hcz16_0, hcz16_1⟩ := Xc2 BK265
   obtain ⟨hcz17_0, hcz17_1⟩ := Xc2 BK266
   go_wp2
   go_ret
   exact ⟨Xe, Xi⟩
 ·replace c10 := Bool.eq_false_iff.mpr c10
  subst c10
  (first | rw [if_neg (show ¬ (false = true) by decide)] at H | skip)
  obtain rfl := Option.some.inj H
  go_wp2
  go_ret
  exact ⟨Xe, Xi⟩

/-! ### laws_eqTermS: function 25 -/
def laws_eqTermS.l0 : Nat → List (S89) → List (S89) → Int → Option (Bool)
 | 0, _, _, _ => none
 | k + 1, x0, x1, x5 => if x5 < (x0.length : Int) then (if 0 ≤ x5 then (if x5 < (x1.length : Int) then ((laws_eqTerm.f k ((rd_T89 x0 x5).f0) ((rd_T89 x0 x5).f1) ((rd_T89 x1 x5).f0) ((rd_T89 x1 x5).f1)).bind fun t270 => (if t270 = true then (laws_eqTermS.l0 k x0 x1 (wrap64 (x5 + 1))) else (some false))) else (none)) else (none)) else (some true)
def laws_eqTermS.f (k : Nat) (l0 : List (S89)) (l1 : List (S89)) : Option (Bool) := if (l0.length : Int) = (l1.length : Int) then (laws_eqTermS.l0 k l0 l1 0) else (some false)
def laws_eqTermS.T6 : Bool × List (List Nat × List Nat) := (true, [([], []), ([], []), ([0, 1], [0, 1]), ([2], [2]), ([], []), ([], []), ([4, 5], [4, 5]), ([6], [6]), ([3, 7], [3, 7]), ([8], [8])])
def laws_eqTermS.B6 : List Nat := [0, 0, 3, 7, 0, 0, 48, 112, 255, 511]
theorem laws_eqTermS.tab6 : rtab .any (opsOf Try.f25 6) = laws_eqTermS.T6 := by kernel_rfl
theorem laws_eqTermS.bits6 : waitsOk laws_eqTermS.T6.2 laws_eqTermS.B6 = true := by kernel_rfl
set_option maxHeartbeats 8000000 in
set_option maxRecDepth 100000 in
theorem laws_eqTermS.calls (k : Nat) (A0 : Option Addr) (c0 : Nat) (l0 : List (S89)) (A1 : Option Addr) (c1 : Nat) (l1 : List (S89)) (r : Bool) (w : World) (hr0 : Kd.C k89 w A0 l0.length l0) (hc0 : l0.length ≤ c0) (hr1 : Kd.C k89 w A1 l1.length l1) (hc1 : l1.length ≤ c1) (h : laws_eqTermS.f k l0 l1 = some r) :
  Calls Try.prog 25 #[.slice A0 l0.length c0, .slice A1 l1.length c1] w fun e w' => e = .returned (.bool r) ∧ Below w.heap.size w w' := by
 have hu89 := Try.underlying89
 have HR0 := Aside0.mk hr0
 have HC0 := Aside0.mk hc0
 clear hr0 hc0
 have HR1 := Aside0.mk hr1
 have HC1 := Aside0.mk hc1
 clear hr1 hc1
 have HB := Aside0.mk (Below.refl w.heap.size w)
 have H : (if (l0.length : Int) = (l1.length : Int) then (laws_eqTermS.l0 k l0 l1 0) else (some false)) = some r := h
 clear h
 obtain ⟨c3, H⟩ | ⟨c3, H⟩ := Xiu H
 ·have c3b0 : ((l0.length : Int) == (l1.length : Int)) = true := beq_iff_eq.mpr c3
  have c3b1 : ((l0.length : Int) != (l1.length : Int)) = false := bne_eq_false_iff_eq.mpr c3
  have c3b2 : (l0.length == l1.length) = true := by first | simpa using c3 | (simp at c3 ⊢; omega)
  clear c3
  have H' := Aside0.mk H
  clear H
  go_enter Try.func25, Try.ntmps25
  go_wp2
  go_loopg [5] k (fun kq v5 w' => ∃ (x5_1 : Int), v5 = .int .i64 x5_1 ∧ Aside0 (laws_eqTermS.l0 kq l0 l1 x5_1 = some r) ∧ Aside0 (kq ≤ k) ∧ Aside0 (Below w.heap.size w w'))
  case atStart => exact ⟨(0), Xr, H', Xkr, ⟨Xi⟩⟩
  case round =>
   clear H'
   (try clear c1); (try clear c3); (try clear c3b0); (try clear c3b1); (try clear c3b2)
   obtain ⟨x5_1, rfl, HA, HK1, HB⟩ := hrel
   cases gk with
   | zero => cases HA.out
   | succ k1 =>
    have H := HA.out
    clear HA
    simp only [laws_eqTermS.l0] at H
    obtain ⟨c4b0, H⟩ | ⟨c4b0, H⟩ := Xit H
    ·obtain ⟨c5b0, H⟩ := Xid H
     obtain ⟨c6b0, H⟩ := Xid H
     obtain ⟨t270, A7, H⟩ := Xbi H
     (try dsimp only at H)
     have HC8 := Aside0.mk H
     clear H
     try go_wp2_with (fail)
     replace HB := Aside0.mk (below_drew1 HB.out)
     have p268 : 0 ≤ (x5_1 : Int) := of_decide_eq_true Xa
     have q268 : x5_1 < (l0.length : Int) := of_decide_eq_true Xa
     obtain ⟨ad268, A268_0, c268_0, e268, hx268_0, hx268_1, hl268_0, hi268_0⟩ := at_T89 HR0.out x5_1 p268 q268
     have hw268_1 := hx268_1
     have hw268_0 := hx268_0
     cases e268
     replace hx268_0 := Xm HB hx268_0
     replace hx268_1 := Xm HB hx268_1
     have HR268_0 := Aside0.mk hi268_0
     have HC268_0 := Aside0.mk hl268_0
     clear hi268_0 hl268_0
     replace p268 := eq_true p268
     replace q268 := eq_true q268
     have p269 : 0 ≤ (x5_1 : Int) := of_decide_eq_true Xa
     have q269 : x5_1 < (l1.length : Int) := of_decide_eq_true Xa
     obtain ⟨ad269, A269_0, c269_0, e269, hx269_0, hx269_1, hl269_0, hi269_0⟩ := at_T89 HR1.out x5_1 p269 q269
     have hw269_1 := hx269_1
     have hw269_0 := hx269_0
     cases e269
     replace hx269_0 := Xm HB hx269_0
     replace hx269_1 := Xm HB hx269_1
     have HR269_0 := Aside0.mk hi269_0
     have HC269_0 := Aside0.mk hl269_0
     clear hi269_0 hl269_0
     replace p269 := eq_true p269
     replace q269 := eq_true q269
     refine start_ (n := 10) (S := fun w' => w'.cell? (ad268.add ((x5_1).toNat * 2)) = some (.slice A268_0 ((rd_T89 l0 x5_1).f0).length c268_0) ∧ w'.cell? ⟨(ad268.add ((x5_1).toNat * 2)).block, (ad268.add ((x5_1).toNat * 2)).off + 1, none⟩ = some (.int .i64 ((rd_T89 l0 x5_1).f1)) ∧ w'.cell? (ad269.add ((x5_1).toNat * 2)) = some (.slice A269_0 ((rd_T89 l1 x5_1).f0).length c269_0) ∧ w'.cell? ⟨(ad269.add ((x5_1).toNat * 2)).block, (ad269.add ((x5_1).toNat * 2)).off + 1, none⟩ = some (.int .i64 ((rd_T89 l1 x5_1).f1))) (ds := []) #[false, false, false, false, false, false, false, false, false, false] (by kernel_rfl) rfl rfl ⟨Xn hw268_0, Xn hw268_1, Xn hw269_0, Xn hw269_1⟩ (fun hHeld => ?_); refine with_tabW laws_eqTermS.tab6 laws_eqTermS.bits6 (fun HT_ HW_ => ?_)
     generalize wr.drew = w9 at HB HR268_0 HR269_0 hx268_0 hx268_1 hx269_0 hx269_1 hHeld ⊢
     refine Xpu 0 17 (XW.bs 10 1) HT_.out ?_
     refine Xpu 1 18 (XW.bs 10 3) HT_.out ?_
     refine Xpu 2 19 (XW.bs 10 7) HT_.out ?_
     refine Xpu 4 21 (XW.bs 10 23) HT_.out ?_
     refine Xpu 5 22 (XW.bs 10 55) HT_.out ?_
     refine Xpu 6 23 (XW.bs 10 119) HT_.out ?_
     refine Xta 3 20 (XW.bs 10 127) HT_.out HW_.out hHeld ?_
     refine Xta 7 24 (XW.bs 10 255) HT_.out HW_.out hHeld ?_
     refine one_ (i := 8) (N := some 25) (XW.bs 10 511) rfl rfl (one_of HT_.out (by kernel_rfl)) (by decide) (fun K hK => ?_)
     refine goes_ Try.func65 (by kernel_rfl) rfl #[.agg #[.slice A268_0 ((rd_T89 l0 x5_1).f0).length c268_0, .int .i64 ((rd_T89 l0 x5_1).f1)], .agg #[.slice A269_0 ((rd_T89 l1 x5_1).f0).length c269_0, .int .i64 ((rd_T89 l1 x5_1).f1)]] (by rfl) rfl rfl (by (try simp only [List.map_toArray, List.map_cons, List.map_nil]); first | done | rfl | (simp only [List.length_drop, List.length_take]; rfl)) ?_
     with_reducible refine (laws_eqTerm.calls k1 _ _ ((rd_T89 l0 x5_1).f0) ((rd_T89 l0 x5_1).f1) _ _ ((rd_T89 l1 x5_1).f0) ((rd_T89 l1 x5_1).f1) t270 _ ?side1 ?side2 ?side3 ?side4 A7.out).mono ?_
     (case side1 => exact Xc HR268_0)
     (case side2 => exact HC268_0.out)
     (case side3 => exact Xc HR269_0)
     (case side4 => exact HC269_0.out)
     rintro e w10 ⟨rfl, hb⟩
     refine ⟨_, rfl, ?_⟩
     replace HB := Aside0.mk (below_step Xi hb)
     (try clear hb)
     (try clear hb2)
     (try clear hk)
     (try clear hi)
     refine hK.out _ _ ⟨Xn hw268_0, Xn hw268_1, Xn hw269_0, Xn hw269_1⟩ (fun hHeld => ?_)
     clear hK K
     refine Xno ?_
     refine Xpu 9 26 (XW.bs 10 1023) HT_.out ?_
     refine done_ (done_of HT_.out (by kernel_rfl)) ?_
     go_upto_if 26 with (fail)
     have H := HC8.out
     clear HC8
     by_cases c11 : t270 = true
     ·subst c11
      (first | rw [if_pos rfl] at H | skip)
      have H' := Aside0.mk H
      clear H
      go_wp2
      go_roundg k1
      case measure => have := HK1.out; omega
      case rel => exact ⟨(wrap64 (x5_1 + 1)), Xr, H', Xk1, ⟨Xi⟩⟩
     ·replace c11 := Bool.eq_false_iff.mpr c11
      subst c11
      (first | rw [if_neg (show ¬ (false = true) by decide)] at H | skip)
      obtain rfl := Option.some.inj H
      go_wp2
      go_ret
      exact ⟨Xe, Xi⟩
    ·obtain rfl := Option.some.inj H
     go_wp2
     go_ret
     exact ⟨Xe, Xi⟩
 ·have c3b0 : ((l0.length : Int) == (l1.length : Int)) = false := beq_eq_false_iff_ne.mpr c3
  have c3b1 : ((l0.length : Int) != (l1.length : Int)) = true := bne_iff_ne.mpr c3
  have c3b2 : (l0.length == l1.length) = false := by first | simpa using c3 | (simp at c3 ⊢; omega)
  obtain rfl := Option.some.inj H
  go_enter Try.func25, Try.ntmps25
  go_wp2
  go_ret
  exact ⟨Xe, Xi⟩

/-! ### laws_eqRule: function 52 -/
def laws_eqRule.f (k : Nat) (a0_0 : ByteArray) (a0_1 : Bool) (l0_2 : List (S89)) (a1_0 : ByteArray) (a1_1 : Bool) (l1_2 : List (S89)) : Option (Bool) := if a0_0.toList = a1_0.toList then (if (a0_1 != a1_1) = true then (some false) else ((laws_eqTermS.f k l0_2 l1_2).bind fun t273 => (if t273 = true then (some true) else (some false)))) else (some false)
set_option maxHeartbeats 8000000 in
set_option maxRecDepth 100000 in
theorem laws_eqRule.calls (k : Nat) (a0_0 : ByteArray) (a0_1 : Bool) (A0_2 : Option Addr) (c0_2 : Nat) (l0_2 : List (S89)) (a1_0 : ByteArray) (a1_1 : Bool) (A1_2 : Option Addr) (c1_2 : Nat) (l1_2 : List (S89)) (r : Bool) (w : World) (hr0_2 : Kd.C k89 w A0_2 l0_2.length l0_2) (hc0_2 : l0_2.length ≤ c0_2) (hr1_2 : Kd.C k89 w A1_2 l1_2.length l1_2) (hc1_2 : l1_2.length ≤ c1_2) (h : laws_eqRule.f k a0_0 a0_1 l0_2 a1_0 a1_1 l1_2 = some r) :
  Calls Try.prog 52 #[.agg #[.string a0_0, .bool a0_1, .slice A0_2 l0_2.length c0_2], .agg #[.string a1_0, .bool a1_1, .slice A1_2 l1_2.length c1_2]] w fun e w' => e = .returned (.bool r) ∧ Below w.heap.size w w' := by
 have hu80 := Try.underlying80
 have HR0_2 := Aside0.mk hr0_2
 have HC0_2 := Aside0.mk hc0_2
 clear hr0_2 hc0_2
 have HR1_2 := Aside0.mk hr1_2
 have HC1_2 := Aside0.mk hc1_2
 clear hr1_2 hc1_2
 have HB := Aside0.mk (Below.refl w.heap.size w)
 have H : (if a0_0.toList = a1_0.toList then (if (a0_1 != a1_1) = true then (some false) else ((laws_eqTermS.f k l0_2 l1_2).bind fun t273 => (if t273 = true then (some true) else (some false)))) else (some false)) = some r := h
 clear h
 have HC3 := Aside0.mk H
 clear H
 go_enter Try.func52, Try.ntmps52
 go_upto_if 9 with (first | ((with_reducible refine gate_dst (N := 2) rfl ?_); refine Xbox 2 #[.string a0_0, .bool a0_1, .slice A0_2 l0_2.length c0_2] 80 ?_; intro gb271 hg w4 hbox hb; have BK271 := Aside0.mk (hbox); have GE271 := Xge hg Xi; replace HB := Aside0.mk (below_step Xi hb); clear hb hbox hg) | ((with_reducible refine gate_dst (N := 3) rfl ?_); refine Xbox 3 #[.string a1_0, .bool a1_1, .slice A1_2 l1_2.length c1_2] 80 ?_; intro gb272 hg w5 hbox hb; have BK272 := Aside0.mk (hbox); have GE272 := Xge hg Xi; replace HB := Aside0.mk (below_step Xi hb); have NB271_272 := Xnb hg BK271; have NB272_271 := Xns NB271_272; replace BK271 := Xbb BK271 hb; clear hb hbox hg; have hnb6 := NB271_272.out; have hnc6 := NB272_271.out; obtain ⟨hcz7_0, hcz7_1, hcz7_2⟩ := Xc3 BK271; obtain ⟨hcz8_0, hcz8_1, hcz8_2⟩ := Xc3 BK272))
 have H := HC3.out
 clear HC3
 obtain ⟨c9, H⟩ | ⟨c9, H⟩ := Xiu H
 ·have c9b0 : (a0_0.toList == a1_0.toList) = true := beq_iff_eq.mpr c9
  have c9b1 : (a0_0.toList != a1_0.toList) = false := bne_eq_false_iff_eq.mpr c9
  clear c9
  (first | rw [c9b0] | (simp only [i64_w, i32_w]; rw [c9b0]) | skip)
  obtain ⟨c10, H⟩ | ⟨c10, H⟩ := Xiu H
  ·have c10b0 : (a0_1 != a1_1) = true := c10
   (try (have c10b1 : decide (a0_1 = a1_1) = false := by simpa using c10))
   (try (have c10b2 : (a0_1 == a1_1) = false := by simpa using c10))
   (try (have c10b3 : ¬ (a0_1 = a1_1) := by simpa using c10))
   (try (have c10b4 : ((!a0_1) == a1_1) = true := by revert c10; cases a0_1 <;> cases a1_1 <;> simp))
   clear c10
   obtain rfl := Option.some.inj H
   have hnb11 := NB271_272.out
   have hnc11 := NB272_271.out
   obtain ⟨hcz12_0, hcz12_1, hcz12_2⟩ := Xc3 BK271
   obtain ⟨hcz13_0, hcz13_1, hcz13_2⟩ := Xc3 BK272
   go_wp2
   go_ret
   exact ⟨Xe, Xi⟩
  ·have c10b0 : (a0_1 != a1_1) = false := by simpa using c10
   (try (have c10b1 : decide (a0_1 = a1_1) = true := by simpa using c10))
   (try (have c10b2 : (a0_1 == a1_1) = true := by simpa using c10))
   (try (have c10b3 : ((!a0_1) == a1_1) = false := by revert c10; cases a0_1 <;> cases a1_1 <;> simp))
   clear c10
   obtain ⟨t273, A14, H⟩ := Xbi H
   (try dsimp only at H)
   have HC15 := Aside0.mk H
   clear H
   have hnb16 := NB271_272.out
   have hnc16 := NB272_271.out
   obtain ⟨hcz17_0, hcz17_1, hcz17_2⟩ := Xc3 BK271
   obtain ⟨hcz18_0, hcz18_1, hcz18_2⟩ := Xc3 BK272
   go_upto_if 20 with (first | ((with_reducible refine gate_callee (f := 25) rfl ?_); refine Xgo 19 Try.func25 #[.slice A0_2 l0_2.length c0_2, .slice A1_2 l1_2.length c1_2] ?_; (with_reducible refine (laws_eqTermS.calls k _ _ l0_2 _ _ l1_2 t273 _ ?side1 ?side2 ?side3 ?side4 A14.out).mono ?_); (case side1 => exact Xc HR0_2); (case side2 => exact HC0_2.out); (case side3 => exact Xc HR1_2); (case side4 => exact HC1_2.out); rintro e w19 ⟨rfl, hb⟩; refine ⟨_, rfl, ?_⟩; replace BK271 := Xbb BK271 hb; replace BK272 := Xbb BK272 hb; replace HB := Aside0.mk (below_step Xi hb); clear hb))
   have H := HC15.out
   clear HC15
   by_cases c20 : t273 = true
   ·subst c20
    (first | rw [if_pos rfl] at H | skip)
    obtain rfl := Option.some.inj H
    go_wp2
    go_ret
    exact ⟨Xe, Xi⟩
   ·replace c20 := Bool.eq_false_iff.mpr c20
    subst c20
    (first | rw [if_neg (show ¬ (false = true) by decide)] at H | skip)
    obtain rfl := Option.some.inj H
    go_wp2
    go_ret
    exact ⟨Xe, Xi⟩
 ·have c9b0 : (a0_0.toList == a1_0.toList) = false := beq_eq_false_iff_ne.mpr c9
  have c9b1 : (a0_0.toList != a1_0.toList) = true := bne_iff_ne.mpr c9
  (first | rw [c9b0] | (simp only [i64_w, i32_w]; rw [c9b0]) | skip)
  obtain rfl := Option.some.inj H
  go_wp2
  go_ret
  exact ⟨Xe, Xi⟩

end Go.Proofs.Ytomlmcimlojmoaa.XA
