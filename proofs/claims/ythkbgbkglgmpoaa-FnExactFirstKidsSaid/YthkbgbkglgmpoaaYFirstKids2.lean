/- Contracts of the program's functions: each Go function that is named below comes to what its Lean function says. Written by xprint.py (a program of this session's, over the kit's print). Conditions: each contract's own premises. -/
import Derived.Test.YthkbgbkglgmpoaaYFirstKids0
import Derived.Test.YthkbgbkglgmpoaaYFirstKids1
namespace Go.Proofs.Ythkbgbkglgmpoaa.XA
open Go.RowKit Go.Proofs.YthkbgbkglgmpoaaW.PrintWords Go.Proofs.YthkbgbkglgmpoaaW.PrintLast Go.Proofs.YthkbgbkglgmpoaaW.PrintMore XW
attribute [local go_sem] max2_int min2_int max_two min_two max_three min_three max_four min_four   -- for this text's walks alone
set_option linter.unusedVariables false
set_option linter.unusedSimpArgs false

/-! ### laws_szIntSS: function 56 -/
def laws_szIntSS.l0 : Nat → List (List Int) → Int → Int → Option (Int)
 | 0, _, _, _ => none
 | k + 1, x0, x1, x5 => if x5 < (x0.length : Int) then (if 0 ≤ x5 then ((laws_szIntS.f (rd_L1 x0 x5) x1).bind fun t115 => (if t115 < 0 then (some (-1)) else (laws_szIntSS.l0 k x0 t115 (wrap64 (x5 + 1))))) else (none)) else (some x1)
def laws_szIntSS.f (k : Nat) (l0 : List (List Int)) (a1 : Int) : Option (Int) := if (wrap64 (a1 - (l0.length : Int))) < 0 then (some (-1)) else (laws_szIntSS.l0 k l0 (wrap64 (a1 - (l0.length : Int))) 0)
set_option maxHeartbeats 8000000 in
set_option maxRecDepth 100000 in
theorem laws_szIntSS.calls (k : Nat) (A0 : Option Addr) (c0 : Nat) (l0 : List (List Int)) (a1 : Int) (r : Int) (w : World) (hr0 : Kd.C (Kd.slice 3 (Kd.int .i64)) w A0 l0.length l0) (hc0 : l0.length ≤ c0) (h : laws_szIntSS.f k l0 a1 = some r) :
  Calls Try.prog 56 #[.slice A0 l0.length c0, .int .i64 a1] w fun e w' => e = .returned (.int .i64 r) ∧ Drawn0 w w' := by
 have HR0 := Aside0.mk hr0
 have HC0 := Aside0.mk hc0
 clear hr0 hc0
 have H : (if (wrap64 (a1 - (l0.length : Int))) < 0 then (some (-1)) else (laws_szIntSS.l0 k l0 (wrap64 (a1 - (l0.length : Int))) 0)) = some r := h
 clear h
 obtain ⟨c3b0, H⟩ | ⟨c3b0, H⟩ := Xit H
 ·obtain rfl := Option.some.inj H
  go_enter Try.func56, Try.ntmps56
  go_wp2
  go_ret
  exact ⟨Xr, Xdr⟩
 ·have H' := Aside0.mk H
  clear H
  go_enter Try.func56, Try.ntmps56
  go_wp2
  go_loopg [1, 5] k (fun kq v1 v5 w' => ∃ (x1_1 : Int) (x5_1 : Int), v1 = .int .i64 x1_1 ∧ v5 = .int .i64 x5_1 ∧ Aside0 (laws_szIntSS.l0 kq l0 x1_1 x5_1 = some r) ∧ Aside0 (kq ≤ k) ∧ Drawn0 w w')
  case atStart => exact ⟨(wrap64 (a1 - (l0.length : Int))), (0), Xr, Xr, H', Xkr, by repeat (first | exact Drawn0.refl _ | apply Drawn0.step)⟩
  case round =>
   clear H'
   (try clear c3); (try clear c3b0)
   obtain ⟨x1_1, x5_1, rfl, rfl, HA, HK1, ⟨m1, rfl⟩⟩ := hrel
   cases gk with
   | zero => cases HA.out
   | succ k1 =>
    have H := HA.out
    clear HA
    simp only [laws_szIntSS.l0] at H
    obtain ⟨c4b0, H⟩ | ⟨c4b0, H⟩ := Xit H
    ·obtain ⟨c5b0, H⟩ := Xid H
     obtain ⟨t115, A6, H⟩ := Xbi H
     (try dsimp only at H)
     have HC7 := Aside0.mk H
     clear H
     have p114 : 0 ≤ (x5_1 : Int) := of_decide_eq_true Xa
     have q114 : x5_1 < (l0.length : Int) := of_decide_eq_true Xa
     obtain ⟨ad114, A114_0, c114_0, e114, hx114_0, hl114_0, hi114_0⟩ := at_L1 HR0.out x5_1 p114 q114
     cases e114
     have HR114_0 := Aside0.mk hi114_0
     have HC114_0 := Aside0.mk hl114_0
     clear hi114_0 hl114_0
     replace p114 := eq_true p114
     replace q114 := eq_true q114
     go_upto_if 25 with (first | ((with_reducible refine gate_callee (f := 91) rfl ?_); refine Xgo 23 Try.func91 #[.slice A114_0 (rd_L1 l0 x5_1).length c114_0, .int .i64 x1_1] ?_; (with_reducible refine (laws_szIntS.calls _ _ (rd_L1 l0 x5_1) x1_1 t115 _ ?side1 ?side2 A6.out).mono ?_); (case side1 => repeat (first | exact HR114_0.out | (with_reducible first | refine Kd.C_alloc ?_ _ | refine Kd.C_drewN ?_ _ | refine Kd.C_drew ?_))); (case side2 => exact HC114_0.out); rintro e w' ⟨rfl, ⟨nd, rfl⟩⟩; refine ⟨_, rfl, ?_⟩))
     have H := HC7.out
     clear HC7
     obtain ⟨c8b0, H⟩ | ⟨c8b0, H⟩ := Xit H
     ·(first | rw [c8b0] | (simp only [i64_w, i32_w]; rw [c8b0]) | skip)
      obtain rfl := Option.some.inj H
      go_wp2
      go_ret
      exact ⟨Xr, Xdr⟩
     ·(first | rw [c8b0] | (simp only [i64_w, i32_w]; rw [c8b0]) | skip)
      have H' := Aside0.mk H
      clear H
      go_wp2
      go_roundg k1
      case measure => have := HK1.out; omega
      case rel => exact ⟨(t115), (wrap64 (x5_1 + 1)), Xr, Xr, H', Xk1, by repeat (first | exact Drawn0.refl _ | apply Drawn0.step)⟩
    ·obtain rfl := Option.some.inj H
     go_wp2
     go_ret
     exact ⟨Xr, Xdr⟩

/-! ### laws_szBoolS: function 57 -/
def laws_szBoolS.f (l0 : List Bool) (a1 : Int) : Option (Int) := if (wrap64 (a1 - (l0.length : Int))) < 0 then (some (-1)) else (some (wrap64 (a1 - (l0.length : Int))))
set_option maxHeartbeats 8000000 in
set_option maxRecDepth 100000 in
theorem laws_szBoolS.calls (A0 : Option Addr) (c0 : Nat) (l0 : List Bool) (a1 : Int) (r : Int) (w : World) (hr0 : Kd.C Kd.bool w A0 l0.length l0) (hc0 : l0.length ≤ c0) (h : laws_szBoolS.f l0 a1 = some r) :
  Calls Try.prog 57 #[.slice A0 l0.length c0, .int .i64 a1] w fun e w' => e = .returned (.int .i64 r) ∧ Drawn0 w w' := by
 have HR0 := Aside0.mk hr0
 have HC0 := Aside0.mk hc0
 clear hr0 hc0
 have H : (if (wrap64 (a1 - (l0.length : Int))) < 0 then (some (-1)) else (some (wrap64 (a1 - (l0.length : Int))))) = some r := h
 clear h
 obtain ⟨c3b0, H⟩ | ⟨c3b0, H⟩ := Xit H
 ·obtain rfl := Option.some.inj H
  go_enter Try.func57, Try.ntmps57
  go_wp2
  go_ret
  exact ⟨Xr, Xdr⟩
 ·obtain rfl := Option.some.inj H
  go_enter Try.func57, Try.ntmps57
  go_wp2
  go_ret
  exact ⟨Xr, Xdr⟩

/-! ### laws_szMachine: function 17 -/
def laws_szMachine.f (k : Nat) (l0_0 : List (List Int)) (l0_1 : List Bool) (a1 : Int) : Option (Int) := (laws_szIntSS.f k l0_0 a1).bind fun t117 => (if t117 < 0 then (some (-1)) else ((laws_szBoolS.f l0_1 t117).bind fun t118 => (if t118 < 0 then (some (-1)) else (some t118))))
set_option maxHeartbeats 8000000 in
set_option maxRecDepth 100000 in
theorem laws_szMachine.calls (k : Nat) (A0_0 : Option Addr) (c0_0 : Nat) (l0_0 : List (List Int)) (A0_1 : Option Addr) (c0_1 : Nat) (l0_1 : List Bool) (a1 : Int) (r : Int) (w : World) (hr0_0 : Kd.C (Kd.slice 3 (Kd.int .i64)) w A0_0 l0_0.length l0_0) (hc0_0 : l0_0.length ≤ c0_0) (hr0_1 : Kd.C Kd.bool w A0_1 l0_1.length l0_1) (hc0_1 : l0_1.length ≤ c0_1) (h : laws_szMachine.f k l0_0 l0_1 a1 = some r) :
  Calls Try.prog 17 #[.agg #[.slice A0_0 l0_0.length c0_0, .slice A0_1 l0_1.length c0_1], .int .i64 a1] w fun e w' => e = .returned (.int .i64 r) ∧ Below w.heap.size w w' := by
 have hu37 := Try.underlying37
 have HR0_0 := Aside0.mk hr0_0
 have HC0_0 := Aside0.mk hc0_0
 clear hr0_0 hc0_0
 have HR0_1 := Aside0.mk hr0_1
 have HC0_1 := Aside0.mk hc0_1
 clear hr0_1 hc0_1
 have HB := Aside0.mk (Below.refl w.heap.size w)
 have H : ((laws_szIntSS.f k l0_0 a1).bind fun t117 => (if t117 < 0 then (some (-1)) else ((laws_szBoolS.f l0_1 t117).bind fun t118 => (if t118 < 0 then (some (-1)) else (some t118))))) = some r := h
 clear h
 obtain ⟨t117, A3, H⟩ := Xbi H
 (try dsimp only at H)
 have HC4 := Aside0.mk H
 clear H
 go_enter Try.func17, Try.ntmps17
 go_upto_if 10 with (first | ((with_reducible refine gate_dst (N := 2) rfl ?_); refine Xbox 2 #[.slice A0_0 l0_0.length c0_0, .slice A0_1 l0_1.length c0_1] 37 ?_; intro gb116 hg w5 hbox hb; have BK116 := Aside0.mk (hbox); have GE116 := Xge hg Xi; replace HB := Aside0.mk (below_step Xi hb); clear hb hbox hg; obtain ⟨hcz6_0, hcz6_1⟩ := Xc2 BK116) | ((with_reducible refine gate_callee (f := 56) rfl ?_); refine Xgo 8 Try.func56 #[.slice A0_0 l0_0.length c0_0, .int .i64 a1] ?_; (with_reducible refine (laws_szIntSS.calls k _ _ l0_0 a1 t117 _ ?side1 ?side2 A3.out).mono ?_); (case side1 => exact Xc HR0_0); (case side2 => exact HC0_0.out); rintro e w' ⟨rfl, ⟨nd, rfl⟩⟩; refine ⟨_, rfl, ?_⟩))
 have H := HC4.out
 clear HC4
 obtain ⟨c7b0, H⟩ | ⟨c7b0, H⟩ := Xit H
 ·(first | rw [c7b0] | (simp only [i64_w, i32_w]; rw [c7b0]) | skip)
  obtain rfl := Option.some.inj H
  go_wp2
  go_ret
  exact ⟨Xe, Xi⟩
 ·(first | rw [c7b0] | (simp only [i64_w, i32_w]; rw [c7b0]) | skip)
  obtain ⟨t118, A8, H⟩ := Xbi H
  (try dsimp only at H)
  have HC9 := Aside0.mk H
  clear H
  obtain ⟨hcz10_0, hcz10_1⟩ := Xc2 BK116
  go_upto_if 16 with (first | ((with_reducible refine gate_callee (f := 57) rfl ?_); refine Xgo 14 Try.func57 #[.slice A0_1 l0_1.length c0_1, .int .i64 t117] ?_; (with_reducible refine (laws_szBoolS.calls _ _ l0_1 t117 t118 _ ?side1 ?side2 A8.out).mono ?_); (case side1 => exact Xc HR0_1); (case side2 => exact HC0_1.out); rintro e w' ⟨rfl, ⟨nd, rfl⟩⟩; refine ⟨_, rfl, ?_⟩))
  have H := HC9.out
  clear HC9
  obtain ⟨c11b0, H⟩ | ⟨c11b0, H⟩ := Xit H
  ·(first | rw [c11b0] | (simp only [i64_w, i32_w]; rw [c11b0]) | skip)
   obtain rfl := Option.some.inj H
   go_wp2
   go_ret
   exact ⟨Xe, Xi⟩
  ·(first | rw [c11b0] | (simp only [i64_w, i32_w]; rw [c11b0]) | skip)
   obtain rfl := Option.some.inj H
   go_wp2
   go_ret
   exact ⟨Xe, Xi⟩

/-! ### spec_l01In: function 105 -/
def spec_l01In.f (a0 : Int) (a1 : Int) (a2 : Int) : Option (Bool) := if a0 ≥ a1 then (some (decide (a0 ≤ a2))) else (some false)
set_option maxHeartbeats 8000000 in
set_option maxRecDepth 100000 in
theorem spec_l01In.calls (a0 : Int) (a1 : Int) (a2 : Int) (r : Bool) (w : World) (h : spec_l01In.f a0 a1 a2 = some r) :
  Calls Try.prog 105 #[.int .i64 a0, .int .i64 a1, .int .i64 a2] w fun e w' => e = .returned (.bool r) ∧ Drawn0 w w' := by
 have H : (if a0 ≥ a1 then (some (decide (a0 ≤ a2))) else (some false)) = some r := h
 clear h
 obtain ⟨c4, H⟩ | ⟨c4, H⟩ := Xiu H
 ·have c4b0 : decide (a1 ≤ a0) = true := decide_eq_true c4
  clear c4
  obtain rfl := Option.some.inj H
  go_enter Try.func105, Try.ntmps105
  go_wp2
  go_ret
  exact ⟨Xr, Xdr⟩
 ·have c4b0 : decide (a1 ≤ a0) = false := decide_eq_false c4
  clear c4
  obtain rfl := Option.some.inj H
  go_enter Try.func105, Try.ntmps105
  go_wp2
  go_ret
  exact ⟨Xr, Xdr⟩

/-! ### spec_MachineOK: function 58 -/
mutual
def spec_MachineOK.j0 : Nat → Bool → List (List Int) → List Bool → Option (Bool)
 | 0, _, _, _ => none
 | k + 1, x18, x120000, x120001 => if x18 = true then (some false) else (spec_MachineOK.l0 k 0 x120000 x120001)
def spec_MachineOK.l0 : Nat → Int → List (List Int) → List Bool → Option (Bool)
 | 0, _, _, _ => none
 | k + 1, x3, x120000, x120001 => if x3 < (x120000.length : Int) then (if 0 ≤ x3 then (if ((rd_L1 x120000 x3).length : Int) = 8 then (spec_MachineOK.l1 k x3 0 x120000 x120001) else (some false)) else (none)) else (some true)
def spec_MachineOK.l1 : Nat → Int → Int → List (List Int) → List Bool → Option (Bool)
 | 0, _, _, _, _ => none
 | k + 1, x3, x4, x120000, x120001 => if x4 < 8 then (if 0 ≤ x3 then (if x3 < (x120000.length : Int) then (if 0 ≤ x4 then (if x4 < ((rd_L1 x120000 x3).length : Int) then ((spec_l01In.f (rd (rd_L1 x120000 x3) x4) (-1) (wrap64 ((x120000.length : Int) - 1))).bind fun t124 => (if t124 = true then (spec_MachineOK.l1 k x3 (wrap64 (x4 + 1)) x120000 x120001) else (some false))) else (none)) else (none)) else (none)) else (none)) else (spec_MachineOK.l0 k (wrap64 (x3 + 1)) x120000 x120001)
end
def spec_MachineOK.f (k : Nat) (l0_0 : List (List Int)) (l0_1 : List Bool) : Option (Bool) := (spec_l01In.f (l0_0.length : Int) 1 512).bind fun t120 => (if t120 = true then (spec_MachineOK.j0 k ((l0_1.length : Int) != (l0_0.length : Int)) l0_0 l0_1) else (spec_MachineOK.j0 k true l0_0 l0_1))
set_option maxHeartbeats 8000000 in
set_option maxRecDepth 100000 in
theorem spec_MachineOK.calls (k : Nat) (A0_0 : Option Addr) (c0_0 : Nat) (l0_0 : List (List Int)) (A0_1 : Option Addr) (c0_1 : Nat) (l0_1 : List Bool) (r : Bool) (w : World) (hr0_0 : Kd.C (Kd.slice 3 (Kd.int .i64)) w A0_0 l0_0.length l0_0) (hc0_0 : l0_0.length ≤ c0_0) (hr0_1 : Kd.C Kd.bool w A0_1 l0_1.length l0_1) (hc0_1 : l0_1.length ≤ c0_1) (h : spec_MachineOK.f k l0_0 l0_1 = some r) :
  Calls Try.prog 58 #[.agg #[.slice A0_0 l0_0.length c0_0, .slice A0_1 l0_1.length c0_1]] w fun e w' => e = .returned (.bool r) ∧ Below w.heap.size w w' := by
 have hu27 := Try.underlying27
 have HR0_0 := Aside0.mk hr0_0
 have HC0_0 := Aside0.mk hc0_0
 clear hr0_0 hc0_0
 have HR0_1 := Aside0.mk hr0_1
 have HC0_1 := Aside0.mk hc0_1
 clear hr0_1 hc0_1
 have HB := Aside0.mk (Below.refl w.heap.size w)
 have H : ((spec_l01In.f (l0_0.length : Int) 1 512).bind fun t120 => (if t120 = true then (spec_MachineOK.j0 k ((l0_1.length : Int) != (l0_0.length : Int)) l0_0 l0_1) else (spec_MachineOK.j0 k true l0_0 l0_1))) = some r := h
 clear h
 have HC2 := Aside0.mk H
 clear H
 go_enter Try.func58, Try.ntmps58
 go_upto_region 1 with (first | ((with_reducible refine gate_dst (N := 1) rfl ?_); (try (refine gate_guard (by rfl) ?_; dsimp only)); refine Xbox 1 #[.slice A0_0 l0_0.length c0_0, .slice A0_1 l0_1.length c0_1] 27 ?_; intro gb119 hg w3 hbox hb; have BK119 := Aside0.mk (hbox); have GE119 := Xge hg Xi; have GW119 := GE119; replace HB := Aside0.mk (below_step Xi hb); clear hb hbox hg))
 repeat (go_quiet (first | ((with_reducible refine gate_dst (N := 1) rfl ?_); (try (refine gate_guard (by rfl) ?_; dsimp only)); refine Xbox 1 #[.slice A0_0 l0_0.length c0_0, .slice A0_1 l0_1.length c0_1] 27 ?_; intro gb119 hg w3 hbox hb; have BK119 := Aside0.mk (hbox); have GE119 := Xge hg Xi; have GW119 := GE119; replace HB := Aside0.mk (below_step Xi hb); clear hb hbox hg)); go_upto_region 1 with (first | ((with_reducible refine gate_dst (N := 1) rfl ?_); (try (refine gate_guard (by rfl) ?_; dsimp only)); refine Xbox 1 #[.slice A0_0 l0_0.length c0_0, .slice A0_1 l0_1.length c0_1] 27 ?_; intro gb119 hg w3 hbox hb; have BK119 := Aside0.mk (hbox); have GE119 := Xge hg Xi; have GW119 := GE119; replace HB := Aside0.mk (below_step Xi hb); clear hb hbox hg)))
 (try simp only [XW.q0, XW.q1, XW.q2])
 go_cut [18] (fun v18 wc => ∃ (kq : Nat) (x18_1 : Bool), v18 = .bool x18_1 ∧ Aside0 (spec_MachineOK.j0 kq x18_1 l0_0 l0_1 = some r) ∧ Aside0 (kq ≤ k) ∧ Aside0 (wc.heap[gb119]? = some (.cells #[(.slice A0_0 l0_0.length c0_0), (.slice A0_1 l0_1.length c0_1)] 27 (0, 0))) ∧ Aside0 (Below w.heap.size w wc))
 case first =>
  have H := HC2.out
  clear HC2
  obtain ⟨t120, A4, H⟩ := Xbi H
  (try dsimp only at H)
  by_cases c5 : t120 = true
  ·subst c5
   (first | rw [if_pos rfl] at H | skip)
   have H' := Aside0.mk H
   clear H
   obtain ⟨hcz6_0, hcz6_1⟩ := Xc2 BK119
   go_wp2_with (first | (go_at_call 105; (with_reducible refine (spec_l01In.calls (l0_0.length : Int) 1 512 true _ A4.out).mono ?_); rintro e w' ⟨rfl, ⟨nd, rfl⟩⟩; (try exact Xdd)))
   repeat (go_quiet (first | (go_at_call 105; (with_reducible refine (spec_l01In.calls (l0_0.length : Int) 1 512 true _ A4.out).mono ?_); rintro e w' ⟨rfl, ⟨nd, rfl⟩⟩; (try exact Xdd))); try go_wp2_with (first | (go_at_call 105; (with_reducible refine (spec_l01In.calls (l0_0.length : Int) 1 512 true _ A4.out).mono ?_); rintro e w' ⟨rfl, ⟨nd, rfl⟩⟩; (try exact Xdd))))
   go_meet
   case rel => exact ⟨_, (((l0_1.length : Int) != (l0_0.length : Int))), Xr, H', Xko, BK119, ⟨Xi⟩⟩
  ·replace c5 := Bool.eq_false_iff.mpr c5
   subst c5
   (first | rw [if_neg (show ¬ (false = true) by decide)] at H | skip)
   have H' := Aside0.mk H
   clear H
   obtain ⟨hcz7_0, hcz7_1⟩ := Xc2 BK119
   go_wp2_with (first | (go_at_call 105; (with_reducible refine (spec_l01In.calls (l0_0.length : Int) 1 512 false _ A4.out).mono ?_); rintro e w' ⟨rfl, ⟨nd, rfl⟩⟩; (try exact Xdd)))
   repeat (go_quiet (first | (go_at_call 105; (with_reducible refine (spec_l01In.calls (l0_0.length : Int) 1 512 false _ A4.out).mono ?_); rintro e w' ⟨rfl, ⟨nd, rfl⟩⟩; (try exact Xdd))); try go_wp2_with (first | (go_at_call 105; (with_reducible refine (spec_l01In.calls (l0_0.length : Int) 1 512 false _ A4.out).mono ?_); rintro e w' ⟨rfl, ⟨nd, rfl⟩⟩; (try exact Xdd))))
   go_meet
   case rel => exact ⟨_, (true), Xr, H', Xko, BK119, ⟨Xi⟩⟩
 case rest =>
  clear HC2
  obtain ⟨kq, x18_1, rfl, HA, HJ1, BK119, HB⟩ := hcut
  cases kq with
  | zero => cases HA.out
  | succ kj1 =>
   have H := HA.out
   clear HA
   simp only [spec_MachineOK.j0] at H
   by_cases c8 : x18_1 = true
   ·subst c8
    (first | rw [if_pos rfl] at H | skip)
    obtain rfl := Option.some.inj H
    go_wp2
    repeat (go_quiet (fail); try go_wp2)
    go_ret
    exact ⟨Xe, Xi⟩
   ·replace c8 := Bool.eq_false_iff.mpr c8
    subst c8
    (first | rw [if_neg (show ¬ (false = true) by decide)] at H | skip)
    have H' := Aside0.mk H
    clear H
    go_wp2
    repeat (go_quiet (fail); try go_wp2)
    go_loopg [3] kj1 (fun kq v3 w' => ∃ (x3_2 : Int), v3 = .int .i64 x3_2 ∧ Aside0 (spec_MachineOK.l0 kq x3_2 l0_0 l0_1 = some r) ∧ Aside0 (kq ≤ kj1) ∧ Aside0 (w'.heap[gb119]? = some (.cells #[(.slice A0_0 l0_0.length c0_0), (.slice A0_1 l0_1.length c0_1)] 27 (0, 0))) ∧ Aside0 (Below w.heap.size w w'))
    case atStart => exact ⟨(0), Xr, H', Xkr, BK119, ⟨Xi⟩⟩
    case round =>
     clear H'
     (try clear c8)
     obtain ⟨x3_2, rfl, HA, HK2, BK119, HB⟩ := hrel
     cases gk with
     | zero => cases HA.out
     | succ k2 =>
      have H := HA.out
      clear HA
      simp only [spec_MachineOK.l0] at H
      obtain ⟨c9b0, H⟩ | ⟨c9b0, H⟩ := Xit H
      ·obtain ⟨c10b0, H⟩ := Xid H
       obtain ⟨c11, H⟩ | ⟨c11, H⟩ := Xiu H
       ·have c11b0 : (((rd_L1 l0_0 x3_2).length : Int) == 8) = true := beq_iff_eq.mpr c11
        have c11b1 : (((rd_L1 l0_0 x3_2).length : Int) != 8) = false := bne_eq_false_iff_eq.mpr c11
        clear c11
        have H' := Aside0.mk H
        clear H
        obtain ⟨hcz12_0, hcz12_1⟩ := Xc2 BK119
        have p121 : 0 ≤ (x3_2 : Int) := of_decide_eq_true Xa
        have q121 : x3_2 < (l0_0.length : Int) := of_decide_eq_true Xa
        obtain ⟨ad121, A121_0, c121_0, e121, hx121_0, hl121_0, hi121_0⟩ := at_L1 HR0_0.out x3_2 p121 q121
        cases e121
        replace hx121_0 := Xm HB hx121_0
        have HR121_0 := Aside0.mk hi121_0
        have HC121_0 := Aside0.mk hl121_0
        clear hi121_0 hl121_0
        replace p121 := eq_true p121
        replace q121 := eq_true q121
        go_wp2
        repeat (go_quiet (fail); try go_wp2)
        go_loopg [4] k2 (fun kq v4 w' => ∃ (x4_3 : Int), v4 = .int .i64 x4_3 ∧ Aside0 (spec_MachineOK.l1 kq x3_2 x4_3 l0_0 l0_1 = some r) ∧ Aside0 (kq ≤ k2) ∧ Aside0 (w'.heap[gb119]? = some (.cells #[(.slice (some ad121) l0_0.length c0_0), (.slice A0_1 l0_1.length c0_1)] 27 (0, 0))) ∧ Aside0 (Below w.heap.size w w'))
        case atStart => exact ⟨(0), Xr, H', Xkr, BK119, ⟨Xi⟩⟩
        case round =>
         clear H'
         (try clear c8); (try clear c9); (try clear c9b0); (try clear c10); (try clear c10b0); (try clear c11); (try clear c11b0); (try clear c11b1); (try clear hcz12_0); (try clear hcz12_1); (try clear hx121_0); (try clear p121); (try clear q121)
         obtain ⟨x4_3, rfl, HA, HK3, BK119, HB⟩ := hrel
         cases gk with
         | zero => cases HA.out
         | succ k3 =>
          have H := HA.out
          clear HA
          simp only [spec_MachineOK.l1] at H
          obtain ⟨c13b0, H⟩ | ⟨c13b0, H⟩ := Xit H
          ·obtain ⟨c14b0, H⟩ := Xid H
           obtain ⟨c15b0, H⟩ := Xid H
           obtain ⟨c16b0, H⟩ := Xid H
           obtain ⟨c17b0, H⟩ := Xid H
           obtain ⟨t124, A18, H⟩ := Xbi H
           (try dsimp only at H)
           have HC19 := Aside0.mk H
           clear H
           obtain ⟨hcz20_0, hcz20_1⟩ := Xc2 BK119
           have p122 : 0 ≤ (x3_2 : Int) := of_decide_eq_true Xa
           have q122 : x3_2 < (l0_0.length : Int) := of_decide_eq_true Xa
           obtain ⟨ad122, A122_0, c122_0, e122, hx122_0, hl122_0, hi122_0⟩ := at_L1 HR0_0.out x3_2 p122 q122
           obtain rfl : ad121 = ad122 := (by injection e122)
           replace hx122_0 := Xm HB hx122_0
           have HR122_0 := Aside0.mk hi122_0
           have HC122_0 := Aside0.mk hl122_0
           clear hi122_0 hl122_0
           replace p122 := eq_true p122
           replace q122 := eq_true q122
           have p123 : 0 ≤ (x4_3 : Int) := of_decide_eq_true Xa
           have q123 : x4_3 < ((rd_L1 l0_0 x3_2).length : Int) := of_decide_eq_true Xa
           obtain ⟨ad123, e123, hx123_0⟩ := Kd.at_int HR122_0.out x4_3 p123 q123
           cases e123
           replace hx123_0 := Xm HB hx123_0
           replace p123 := eq_true p123
           replace q123 := eq_true q123
           go_upto_if 50 with (first | (go_at_call 105; (with_reducible refine (spec_l01In.calls (rd (rd_L1 l0_0 x3_2) x4_3) (-1) (wrap64 ((l0_0.length : Int) - 1)) t124 _ A18.out).mono ?_); rintro e w' ⟨rfl, ⟨nd, rfl⟩⟩; (try exact Xdd)))
           repeat (go_quiet (first | (go_at_call 105; (with_reducible refine (spec_l01In.calls (rd (rd_L1 l0_0 x3_2) x4_3) (-1) (wrap64 ((l0_0.length : Int) - 1)) t124 _ A18.out).mono ?_); rintro e w' ⟨rfl, ⟨nd, rfl⟩⟩; (try exact Xdd))); go_upto_if 50 with (first | (go_at_call 105; (with_reducible refine (spec_l01In.calls (rd (rd_L1 l0_0 x3_2) x4_3) (-1) (wrap64 ((l0_0.length : Int) - 1)) t124 _ A18.out).mono ?_); rintro e w' ⟨rfl, ⟨nd, rfl⟩⟩; (try exact Xdd))))
           have H := HC19.out
           clear HC19
           by_cases c21 : t124 = true
           ·subst c21
            (first | rw [if_pos rfl] at H | skip)
            have H' := Aside0.mk H
            clear H
            go_wp2
            repeat (go_quiet (fail); try go_wp2)
            go_roundg k3
            case measure => have := HJ1.out; have := HK2.out; have := HK3.out; omega
            case rel => exact ⟨(wrap64 (x4_3 + 1)), Xr, H', ⟨by have := HJ1.out; have := HK2.out; have := HK3.out; omega⟩, BK119, ⟨Xi⟩⟩
           ·replace c21 := Bool.eq_false_iff.mpr c21
            subst c21
            (first | rw [if_neg (show ¬ (false = true) by decide)] at H | skip)
            obtain rfl := Option.some.inj H
            go_wp2
            repeat (go_quiet (fail); try go_wp2)
            go_ret
            exact ⟨Xe, Xi⟩
          ·have H' := Aside0.mk H
           clear H
           go_wp2
           repeat (go_quiet (fail); try go_wp2)
           go_roundg k3
           case measure => have := HJ1.out; have := HK2.out; have := HK3.out; omega
           case rel => exact ⟨(wrap64 (x3_2 + 1)), Xr, H', ⟨by have := HJ1.out; have := HK2.out; have := HK3.out; omega⟩, BK119, ⟨Xi⟩⟩
       ·have c11b0 : (((rd_L1 l0_0 x3_2).length : Int) == 8) = false := beq_eq_false_iff_ne.mpr c11
        have c11b1 : (((rd_L1 l0_0 x3_2).length : Int) != 8) = true := bne_iff_ne.mpr c11
        obtain rfl := Option.some.inj H
        obtain ⟨hcz22_0, hcz22_1⟩ := Xc2 BK119
        have p121 : 0 ≤ (x3_2 : Int) := of_decide_eq_true Xa
        have q121 : x3_2 < (l0_0.length : Int) := of_decide_eq_true Xa
        obtain ⟨ad121, A121_0, c121_0, e121, hx121_0, hl121_0, hi121_0⟩ := at_L1 HR0_0.out x3_2 p121 q121
        cases e121
        replace hx121_0 := Xm HB hx121_0
        have HR121_0 := Aside0.mk hi121_0
        have HC121_0 := Aside0.mk hl121_0
        clear hi121_0 hl121_0
        replace p121 := eq_true p121
        replace q121 := eq_true q121
        go_wp2
        repeat (go_quiet (fail); try go_wp2)
        go_ret
        exact ⟨Xe, Xi⟩
      ·obtain rfl := Option.some.inj H
       obtain ⟨hcz23_0, hcz23_1⟩ := Xc2 BK119
       go_wp2
       repeat (go_quiet (fail); try go_wp2)
       go_ret
       exact ⟨Xe, Xi⟩

/-! ### spec_l02Has: function 106 -/
def spec_l02Has.l0 : Nat → List Int → Int → Int → Option (Bool)
 | 0, _, _, _ => none
 | k + 1, x0, x1, x5 => if x5 < (x0.length : Int) then (if 0 ≤ x5 then (if (rd x0 x5) = x1 then (some true) else (spec_l02Has.l0 k x0 x1 (wrap64 (x5 + 1)))) else (none)) else (some false)
def spec_l02Has.f (k : Nat) (l0 : List Int) (a1 : Int) : Option (Bool) := spec_l02Has.l0 k l0 a1 0
set_option maxHeartbeats 8000000 in
set_option maxRecDepth 100000 in
theorem spec_l02Has.calls (k : Nat) (A0 : Option Addr) (c0 : Nat) (l0 : List Int) (a1 : Int) (r : Bool) (w : World) (hr0 : Kd.C (Kd.int .i64) w A0 l0.length l0) (hc0 : l0.length ≤ c0) (h : spec_l02Has.f k l0 a1 = some r) :
  Calls Try.prog 106 #[.slice A0 l0.length c0, .int .i64 a1] w fun e w' => e = .returned (.bool r) ∧ Drawn0 w w' := by
 have HR0 := Aside0.mk hr0
 have HC0 := Aside0.mk hc0
 clear hr0 hc0
 have H : (spec_l02Has.l0 k l0 a1 0) = some r := h
 clear h
 have H' := Aside0.mk H
 clear H
 go_enter Try.func106, Try.ntmps106
 go_wp2
 go_loopg [5] k (fun kq v5 w' => ∃ (x5_1 : Int), v5 = .int .i64 x5_1 ∧ Aside0 (spec_l02Has.l0 kq l0 a1 x5_1 = some r) ∧ Aside0 (kq ≤ k) ∧ Drawn0 w w')
 case atStart => exact ⟨(0), Xr, H', Xkr, by repeat (first | exact Drawn0.refl _ | apply Drawn0.step)⟩
 case round =>
  clear H'
  obtain ⟨x5_1, rfl, HA, HK1, ⟨m1, rfl⟩⟩ := hrel
  cases gk with
  | zero => cases HA.out
  | succ k1 =>
   have H := HA.out
   clear HA
   simp only [spec_l02Has.l0] at H
   obtain ⟨c3b0, H⟩ | ⟨c3b0, H⟩ := Xit H
   ·obtain ⟨c4b0, H⟩ := Xid H
    obtain ⟨c5, H⟩ | ⟨c5, H⟩ := Xiu H
    ·have c5b0 : ((rd l0 x5_1) == a1) = true := beq_iff_eq.mpr c5
     have c5b1 : ((rd l0 x5_1) != a1) = false := bne_eq_false_iff_eq.mpr c5
     clear c5
     obtain rfl := Option.some.inj H
     have p125 : 0 ≤ (x5_1 : Int) := of_decide_eq_true Xa
     have q125 : x5_1 < (l0.length : Int) := of_decide_eq_true Xa
     obtain ⟨ad125, e125, hx125_0⟩ := Kd.at_int HR0.out x5_1 p125 q125
     cases e125
     replace p125 := eq_true p125
     replace q125 := eq_true q125
     go_wp2
     go_ret
     exact ⟨Xr, Xdr⟩
    ·have c5b0 : ((rd l0 x5_1) == a1) = false := beq_eq_false_iff_ne.mpr c5
     have c5b1 : ((rd l0 x5_1) != a1) = true := bne_iff_ne.mpr c5
     have H' := Aside0.mk H
     clear H
     have p125 : 0 ≤ (x5_1 : Int) := of_decide_eq_true Xa
     have q125 : x5_1 < (l0.length : Int) := of_decide_eq_true Xa
     obtain ⟨ad125, e125, hx125_0⟩ := Kd.at_int HR0.out x5_1 p125 q125
     cases e125
     replace p125 := eq_true p125
     replace q125 := eq_true q125
     go_wp2
     go_roundg k1
     case measure => have := HK1.out; omega
     case rel => exact ⟨(wrap64 (x5_1 + 1)), Xr, H', Xk1, by repeat (first | exact Drawn0.refl _ | apply Drawn0.step)⟩
   ·obtain rfl := Option.some.inj H
    go_wp2
    go_ret
    exact ⟨Xr, Xdr⟩

end Go.Proofs.Ythkbgbkglgmpoaa.XA
