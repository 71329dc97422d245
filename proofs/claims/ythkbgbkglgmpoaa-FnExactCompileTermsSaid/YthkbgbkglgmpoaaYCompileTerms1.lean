/- Contracts of the program's functions: each Go function that is named below comes to what its Lean function says. Written by xprint.py (a program of this session's, over the kit's print). Conditions: each contract's own premises. -/
import Derived.Test.YthkbgbkglgmpoaaYCompileTerms0
namespace Go.Proofs.Ythkbgbkglgmpoaa.XA
open Go.RowKit Go.Proofs.YthkbgbkglgmpoaaW.PrintWords Go.Proofs.YthkbgbkglgmpoaaW.PrintLast Go.Proofs.YthkbgbkglgmpoaaW.PrintMore XW
attribute [local go_sem] max2_int min2_int max_two min_two max_three min_three max_four min_four   -- for this text's walks alone
set_option linter.unusedVariables false
set_option linter.unusedSimpArgs false

/-! ### laws_szIntS: function 91 -/
def laws_szIntS.f (l0 : List Int) (a1 : Int) : Option (Int) := if (wrap64 (a1 - (l0.length : Int))) < 0 then (some (-1)) else (some (wrap64 (a1 - (l0.length : Int))))
set_option maxHeartbeats 8000000 in
set_option maxRecDepth 100000 in
theorem laws_szIntS.calls (A0 : Option Addr) (c0 : Nat) (l0 : List Int) (a1 : Int) (r : Int) (w : World) (hr0 : Kd.C (Kd.int .i64) w A0 l0.length l0) (hc0 : l0.length ≤ c0) (h : laws_szIntS.f l0 a1 = some r) :
  Calls Try.prog 91 #[.slice A0 l0.length c0, .int .i64 a1] w fun e w' => e = .returned (.int .i64 r) ∧ Drawn0 w w' := by
 have HR0 := Aside0.mk hr0
 have HC0 := Aside0.mk hc0
 clear hr0 hc0
 have H : (if (wrap64 (a1 - (l0.length : Int))) < 0 then (some (-1)) else (some (wrap64 (a1 - (l0.length : Int))))) = some r := h
 clear h
 obtain ⟨c3b0, H⟩ | ⟨c3b0, H⟩ := Xit H
 ·obtain rfl := Option.some.inj H
  go_enter Try.func91, Try.ntmps91
  go_wp2
  go_ret
  exact ⟨Xr, Xdr⟩
 ·obtain rfl := Option.some.inj H
  go_enter Try.func91, Try.ntmps91
  go_wp2
  go_ret
  exact ⟨Xr, Xdr⟩

/-! ### laws_szTerm: function 42 -/
def laws_szTerm.f (l0_0 : List Int) (a0_1 : Int) (a1 : Int) : Option (Int) := (laws_szIntS.f l0_0 a1).bind fun t102 => (if t102 < 0 then (some (-1)) else (some t102))
set_option maxHeartbeats 8000000 in
set_option maxRecDepth 100000 in
theorem laws_szTerm.calls (A0_0 : Option Addr) (c0_0 : Nat) (l0_0 : List Int) (a0_1 : Int) (a1 : Int) (r : Int) (w : World) (hr0_0 : Kd.C (Kd.int .i64) w A0_0 l0_0.length l0_0) (hc0_0 : l0_0.length ≤ c0_0) (h : laws_szTerm.f l0_0 a0_1 a1 = some r) :
  Calls Try.prog 42 #[.agg #[.slice A0_0 l0_0.length c0_0, .int .i64 a0_1], .int .i64 a1] w fun e w' => e = .returned (.int .i64 r) ∧ Below w.heap.size w w' := by
 have hu75 := Try.underlying75
 have HR0_0 := Aside0.mk hr0_0
 have HC0_0 := Aside0.mk hc0_0
 clear hr0_0 hc0_0
 have HB := Aside0.mk (Below.refl w.heap.size w)
 have H : ((laws_szIntS.f l0_0 a1).bind fun t102 => (if t102 < 0 then (some (-1)) else (some t102))) = some r := h
 clear h
 obtain ⟨t102, A3, H⟩ := Xbi H
 (try dsimp only at H)
 have HC4 := Aside0.mk H
 clear H
 go_enter Try.func42, Try.ntmps42
 go_upto_if 10 with (first | ((with_reducible refine gate_dst (N := 2) rfl ?_); refine Xbox 2 #[.slice A0_0 l0_0.length c0_0, .int .i64 a0_1] 75 ?_; intro gb101 hg w5 hbox hb; have BK101 := Aside0.mk (hbox); have GE101 := Xge hg Xi; replace HB := Aside0.mk (below_step Xi hb); clear hb hbox hg; obtain ⟨hcz6_0, hcz6_1⟩ := Xc2 BK101) | ((with_reducible refine gate_callee (f := 91) rfl ?_); refine Xgo 8 Try.func91 #[.slice A0_0 l0_0.length c0_0, .int .i64 a1] ?_; (with_reducible refine (laws_szIntS.calls _ _ l0_0 a1 t102 _ ?side1 ?side2 A3.out).mono ?_); (case side1 => exact Xc HR0_0); (case side2 => exact HC0_0.out); rintro e w' ⟨rfl, ⟨nd, rfl⟩⟩; refine ⟨_, rfl, ?_⟩))
 have H := HC4.out
 clear HC4
 obtain ⟨c7b0, H⟩ | ⟨c7b0, H⟩ := Xit H
 ·(first | rw [c7b0] | (simp only [i64_w, i32_w]; rw [c7b0]) | skip)
  obtain rfl := Option.some.inj H
  go_wp2
  go_ret
  exact ⟨Xe, Xi⟩
 ·(first | rw [c7b0] | (simp only [i64_w, i32_w]; rw [c7b0]) | skip)
  obtain rfl := Option.some.inj H
  go_wp2
  go_ret
  exact ⟨Xe, Xi⟩

/-! ### laws_szTermS: function 8 -/
def laws_szTermS.l0 : Nat → List (S75) → Int → Int → Option (Int)
 | 0, _, _, _ => none
 | k + 1, x0, x1, x5 => if x5 < (x0.length : Int) then (if 0 ≤ x5 then ((laws_szTerm.f ((rd_T75 x0 x5).f0) ((rd_T75 x0 x5).f1) x1).bind fun t104 => (if t104 < 0 then (some (-1)) else (laws_szTermS.l0 k x0 t104 (wrap64 (x5 + 1))))) else (none)) else (some x1)
def laws_szTermS.f (k : Nat) (l0 : List (S75)) (a1 : Int) : Option (Int) := if (wrap64 (a1 - (l0.length : Int))) < 0 then (some (-1)) else (laws_szTermS.l0 k l0 (wrap64 (a1 - (l0.length : Int))) 0)
set_option maxHeartbeats 8000000 in
set_option maxRecDepth 100000 in
theorem laws_szTermS.calls (k : Nat) (A0 : Option Addr) (c0 : Nat) (l0 : List (S75)) (a1 : Int) (r : Int) (w : World) (hr0 : Kd.C k75 w A0 l0.length l0) (hc0 : l0.length ≤ c0) (h : laws_szTermS.f k l0 a1 = some r) :
  Calls Try.prog 8 #[.slice A0 l0.length c0, .int .i64 a1] w fun e w' => e = .returned (.int .i64 r) ∧ Below w.heap.size w w' := by
 have hu75 := Try.underlying75
 have HR0 := Aside0.mk hr0
 have HC0 := Aside0.mk hc0
 clear hr0 hc0
 have HB := Aside0.mk (Below.refl w.heap.size w)
 have H : (if (wrap64 (a1 - (l0.length : Int))) < 0 then (some (-1)) else (laws_szTermS.l0 k l0 (wrap64 (a1 - (l0.length : Int))) 0)) = some r := h
 clear h
 obtain ⟨c3b0, H⟩ | ⟨c3b0, H⟩ := Xit H
 ·obtain rfl := Option.some.inj H
  go_enter Try.func8, Try.ntmps8
  go_wp2
  go_ret
  exact ⟨Xe, Xi⟩
 ·have H' := Aside0.mk H
  clear H
  go_enter Try.func8, Try.ntmps8
  go_wp2
  go_loopg [1, 5] k (fun kq v1 v5 w' => ∃ (x1_1 : Int) (x5_1 : Int), v1 = .int .i64 x1_1 ∧ v5 = .int .i64 x5_1 ∧ Aside0 (laws_szTermS.l0 kq l0 x1_1 x5_1 = some r) ∧ Aside0 (kq ≤ k) ∧ Aside0 (Below w.heap.size w w'))
  case atStart => exact ⟨(wrap64 (a1 - (l0.length : Int))), (0), Xr, Xr, H', Xkr, ⟨Xi⟩⟩
  case round =>
   clear H'
   (try clear c3); (try clear c3b0)
   obtain ⟨x1_1, x5_1, rfl, rfl, HA, HK1, HB⟩ := hrel
   cases gk with
   | zero => cases HA.out
   | succ k1 =>
    have H := HA.out
    clear HA
    simp only [laws_szTermS.l0] at H
    obtain ⟨c4b0, H⟩ | ⟨c4b0, H⟩ := Xit H
    ·obtain ⟨c5b0, H⟩ := Xid H
     obtain ⟨t104, A6, H⟩ := Xbi H
     (try dsimp only at H)
     have HC7 := Aside0.mk H
     clear H
     obtain ⟨ad103, A103_0, c103_0, e103, p103, q103, hx103_0, hx103_1, HC103_0, HR103_0⟩ := at_B75 HR0 x5_1 Xa Xa HB
     cases e103
     go_upto_if 25 with (first | ((with_reducible refine gate_callee (f := 42) rfl ?_); refine Xgo 23 Try.func42 #[.agg #[.slice A103_0 ((rd_T75 l0 x5_1).f0).length c103_0, .int .i64 ((rd_T75 l0 x5_1).f1)], .int .i64 x1_1] ?_; (with_reducible refine (laws_szTerm.calls _ _ ((rd_T75 l0 x5_1).f0) ((rd_T75 l0 x5_1).f1) x1_1 t104 _ ?side1 ?side2 A6.out).mono ?_); (case side1 => exact Xc HR103_0); (case side2 => exact HC103_0.out); rintro e w8 ⟨rfl, hb⟩; refine ⟨_, rfl, ?_⟩; replace HB := Aside0.mk (below_step Xi hb); clear hb))
     have H := HC7.out
     clear HC7
     obtain ⟨c9b0, H⟩ | ⟨c9b0, H⟩ := Xit H
     ·(first | rw [c9b0] | (simp only [i64_w, i32_w]; rw [c9b0]) | skip)
      obtain rfl := Option.some.inj H
      go_wp2
      go_ret
      exact ⟨Xe, Xi⟩
     ·(first | rw [c9b0] | (simp only [i64_w, i32_w]; rw [c9b0]) | skip)
      have H' := Aside0.mk H
      clear H
      go_wp2
      go_roundg k1
      case measure => have := HK1.out; omega
      case rel => exact ⟨(t104), (wrap64 (x5_1 + 1)), Xr, Xr, H', Xk1, ⟨Xi⟩⟩
    ·obtain rfl := Option.some.inj H
     go_wp2
     go_ret
     exact ⟨Xe, Xi⟩

/-! ### spec_l01In: function 105 -/
def spec_l01In.f (a0 : Int) (a1 : Int) (a2 : Int) : Option (Bool) := if a0 ≥ a1 then (some (decide (a0 ≤ a2))) else (some false)
set_option maxHeartbeats 8000000 in
set_option maxRecDepth 100000 in
theorem spec_l01In.calls (a0 : Int) (a1 : Int) (a2 : Int) (r : Bool) (w : World) (h : spec_l01In.f a0 a1 a2 = some r) :
  Calls Try.prog 105 #[.int .i64 a0, .int .i64 a1, .int .i64 a2] w fun e w' => e = .returned (.bool r) ∧ Drawn0 w w' := by
 have H : (if a0 ≥ a1 then (some (decide (a0 ≤ a2))) else (some false)) = some r := h
 clear h
 obtain ⟨c4, H⟩ | ⟨c4, H⟩ := Xiu H
 ·have c4b0 : decide (a1 ≤ a0) = true := decide_eq_true c4
  clear c4
  obtain rfl := Option.some.inj H
  go_enter Try.func105, Try.ntmps105
  go_wp2
  go_ret
  exact ⟨Xr, Xdr⟩
 ·have c4b0 : decide (a1 ≤ a0) = false := decide_eq_false c4
  clear c4
  obtain rfl := Option.some.inj H
  go_enter Try.func105, Try.ntmps105
  go_wp2
  go_ret
  exact ⟨Xr, Xdr⟩

/-! ### spec_l03Many: function 138 -/
def spec_l03Many.f (a0 : Int) : Option (Bool) := (spec_l01In.f a0 0 3).bind fun t105 => (some t105)
set_option maxHeartbeats 8000000 in
set_option maxRecDepth 100000 in
theorem spec_l03Many.calls (a0 : Int) (r : Bool) (w : World) (h : spec_l03Many.f a0 = some r) :
  Calls Try.prog 138 #[.int .i64 a0] w fun e w' => e = .returned (.bool r) ∧ Drawn0 w w' := by
 have H : ((spec_l01In.f a0 0 3).bind fun t105 => (some t105)) = some r := h
 clear h
 obtain ⟨t105, A2, H⟩ := Xbi H
 (try dsimp only at H)
 obtain rfl := Option.some.inj H
 go_enter Try.func138, Try.ntmps138
 go_wp2_with (first | ((with_reducible refine gate_callee (f := 105) rfl ?_); refine Xgo 4 Try.func105 #[.int .i64 a0, .int .i64 0, .int .i64 3] ?_; (with_reducible refine (spec_l01In.calls a0 0 3 t105 _ A2.out).mono ?_); rintro e w' ⟨rfl, ⟨nd, rfl⟩⟩; refine ⟨_, rfl, ?_⟩))
 go_ret
 exact ⟨Xr, Xdr⟩

/-! ### spec_l03Term: function 92 -/
mutual
def spec_l03Term.j0 : Nat → Int → Bool → List Int → Int → Option (Bool)
 | 0, _, _, _, _ => none
 | k + 1, x1, x22, x107000, x107001 => if x22 = true then (some false) else (spec_l03Term.l0 k x1 0 x107000 x107001)
def spec_l03Term.l0 : Nat → Int → Int → List Int → Int → Option (Bool)
 | 0, _, _, _, _ => none
 | k + 1, x1, x5, x107000, x107001 => if x5 < (x107000.length : Int) then (if 0 ≤ x5 then ((spec_l01In.f (rd x107000 x5) 1 x1).bind fun t109 => (if t109 = true then (if x5 > 0 then (if 0 ≤ (wrap64 (x5 - 1)) then (if (wrap64 (x5 - 1)) < (x107000.length : Int) then (if (rd x107000 x5) ≤ (rd x107000 (wrap64 (x5 - 1))) then (some false) else (spec_l03Term.l0 k x1 (wrap64 (x5 + 1)) x107000 x107001)) else (none)) else (none)) else (spec_l03Term.l0 k x1 (wrap64 (x5 + 1)) x107000 x107001)) else (some false))) else (none)) else (some true)
end
def spec_l03Term.f (k : Nat) (l0_0 : List Int) (a0_1 : Int) (a1 : Int) : Option (Bool) := if (l0_0.length : Int) = 0 then (spec_l03Term.j0 k a1 true l0_0 a0_1) else (if (l0_0.length : Int) > a1 then (spec_l03Term.j0 k a1 true l0_0 a0_1) else ((spec_l03Many.f a0_1).bind fun t107 => (spec_l03Term.j0 k a1 (!t107) l0_0 a0_1)))
set_option maxHeartbeats 8000000 in
set_option maxRecDepth 100000 in
theorem spec_l03Term.calls (k : Nat) (A0_0 : Option Addr) (c0_0 : Nat) (l0_0 : List Int) (a0_1 : Int) (a1 : Int) (r : Bool) (w : World) (hr0_0 : Kd.C (Kd.int .i64) w A0_0 l0_0.length l0_0) (hc0_0 : l0_0.length ≤ c0_0) (h : spec_l03Term.f k l0_0 a0_1 a1 = some r) :
  Calls Try.prog 92 #[.agg #[.slice A0_0 l0_0.length c0_0, .int .i64 a0_1], .int .i64 a1] w fun e w' => e = .returned (.bool r) ∧ Below w.heap.size w w' := by
 have hu78 := Try.underlying78
 have HR0_0 := Aside0.mk hr0_0
 have HC0_0 := Aside0.mk hc0_0
 clear hr0_0 hc0_0
 have HB := Aside0.mk (Below.refl w.heap.size w)
 have H : (if (l0_0.length : Int) = 0 then (spec_l03Term.j0 k a1 true l0_0 a0_1) else (if (l0_0.length : Int) > a1 then (spec_l03Term.j0 k a1 true l0_0 a0_1) else ((spec_l03Many.f a0_1).bind fun t107 => (spec_l03Term.j0 k a1 (!t107) l0_0 a0_1)))) = some r := h
 clear h
 have HC3 := Aside0.mk H
 clear H
 go_enter Try.func92, Try.ntmps92
 go_upto_region 1 with (first | ((with_reducible refine gate_dst (N := 2) rfl ?_); (try (refine gate_guard (by rfl) ?_; dsimp only)); refine Xbox 2 #[.slice A0_0 l0_0.length c0_0, .int .i64 a0_1] 78 ?_; intro gb106 hg w4 hbox hb; have BK106 := Aside0.mk (hbox); have GE106 := Xge hg Xi; have GW106 := GE106; replace HB := Aside0.mk (below_step Xi hb); clear hb hbox hg))
 repeat (go_quiet (first | ((with_reducible refine gate_dst (N := 2) rfl ?_); (try (refine gate_guard (by rfl) ?_; dsimp only)); refine Xbox 2 #[.slice A0_0 l0_0.length c0_0, .int .i64 a0_1] 78 ?_; intro gb106 hg w4 hbox hb; have BK106 := Aside0.mk (hbox); have GE106 := Xge hg Xi; have GW106 := GE106; replace HB := Aside0.mk (below_step Xi hb); clear hb hbox hg)); go_upto_region 1 with (first | ((with_reducible refine gate_dst (N := 2) rfl ?_); (try (refine gate_guard (by rfl) ?_; dsimp only)); refine Xbox 2 #[.slice A0_0 l0_0.length c0_0, .int .i64 a0_1] 78 ?_; intro gb106 hg w4 hbox hb; have BK106 := Aside0.mk (hbox); have GE106 := Xge hg Xi; have GW106 := GE106; replace HB := Aside0.mk (below_step Xi hb); clear hb hbox hg)))
 (try simp only [XW.q0, XW.q1, XW.q2])
 go_cut [22] (fun v22 wc => ∃ (kq : Nat) (x22_2 : Bool), v22 = .bool x22_2 ∧ Aside0 (spec_l03Term.j0 kq a1 x22_2 l0_0 a0_1 = some r) ∧ Aside0 (kq ≤ k) ∧ Aside0 (wc.heap[gb106]? = some (.cells #[(.slice A0_0 l0_0.length c0_0), .int .i64 a0_1] 78 (0, 0))) ∧ Aside0 (Below w.heap.size w wc))
 case first =>
  have H := HC3.out
  clear HC3
  obtain ⟨c5, H⟩ | ⟨c5, H⟩ := Xiu H
  ·have c5b0 : ((l0_0.length : Int) == 0) = true := beq_iff_eq.mpr c5
   have c5b1 : ((l0_0.length : Int) != 0) = false := bne_eq_false_iff_eq.mpr c5
   clear c5
   (first | rw [c5b0] | (simp only [i64_w, i32_w]; rw [c5b0]) | skip)
   have H' := Aside0.mk H
   clear H
   obtain ⟨hcz6_0, hcz6_1⟩ := Xc2 BK106
   go_wp2
   repeat (go_quiet (fail); try go_wp2)
   go_meet
   case rel => exact ⟨_, (true), Xr, H', Xko, BK106, ⟨Xi⟩⟩
  ·have c5b0 : ((l0_0.length : Int) == 0) = false := beq_eq_false_iff_ne.mpr c5
   have c5b1 : ((l0_0.length : Int) != 0) = true := bne_iff_ne.mpr c5
   have c5b2 : ¬ (l0_0 = []) := fun h_ => c5 (by rw [h_]; rfl)
   (first | rw [c5b0] | (simp only [i64_w, i32_w]; rw [c5b0]) | skip)
   obtain ⟨c7, H⟩ | ⟨c7, H⟩ := Xiu H
   ·have c7b0 : decide (a1 < (l0_0.length : Int)) = true := decide_eq_true c7
    clear c7
    have H' := Aside0.mk H
    clear H
    obtain ⟨hcz8_0, hcz8_1⟩ := Xc2 BK106
    go_wp2
    repeat (go_quiet (fail); try go_wp2)
    go_meet
    case rel => exact ⟨_, (true), Xr, H', Xko, BK106, ⟨Xi⟩⟩
   ·have c7b0 : decide (a1 < (l0_0.length : Int)) = false := decide_eq_false c7
    clear c7
    obtain ⟨t107, A9, H⟩ := Xbi H
    (try dsimp only at H)
    have H' := Aside0.mk H
    clear H
    obtain ⟨hcz10_0, hcz10_1⟩ := Xc2 BK106
    go_wp2_with (first | (go_at_call 138; (with_reducible refine (spec_l03Many.calls a0_1 t107 _ A9.out).mono ?_); rintro e w' ⟨rfl, ⟨nd, rfl⟩⟩; (try exact Xdd)))
    repeat (go_quiet (first | (go_at_call 138; (with_reducible refine (spec_l03Many.calls a0_1 t107 _ A9.out).mono ?_); rintro e w' ⟨rfl, ⟨nd, rfl⟩⟩; (try exact Xdd))); try go_wp2_with (first | (go_at_call 138; (with_reducible refine (spec_l03Many.calls a0_1 t107 _ A9.out).mono ?_); rintro e w' ⟨rfl, ⟨nd, rfl⟩⟩; (try exact Xdd))))
    go_meet
    case rel => exact ⟨_, (!t107), Xr, H', Xko, BK106, ⟨Xi⟩⟩
 case rest =>
  clear HC3
  obtain ⟨kq, x22_2, rfl, HA, HJ2, BK106, HB⟩ := hcut
  cases kq with
  | zero => cases HA.out
  | succ kj2 =>
   have H := HA.out
   clear HA
   simp only [spec_l03Term.j0] at H
   by_cases c11 : x22_2 = true
   ·subst c11
    (first | rw [if_pos rfl] at H | skip)
    obtain rfl := Option.some.inj H
    go_wp2
    repeat (go_quiet (fail); try go_wp2)
    go_ret
    exact ⟨Xe, Xi⟩
   ·replace c11 := Bool.eq_false_iff.mpr c11
    subst c11
    (first | rw [if_neg (show ¬ (false = true) by decide)] at H | skip)
    have H' := Aside0.mk H
    clear H
    go_wp2
    repeat (go_quiet (fail); try go_wp2)
    go_loopg [5] kj2 (fun kq v5 w' => ∃ (x5_2 : Int), v5 = .int .i64 x5_2 ∧ Aside0 (spec_l03Term.l0 kq a1 x5_2 l0_0 a0_1 = some r) ∧ Aside0 (kq ≤ kj2) ∧ Aside0 (w'.heap[gb106]? = some (.cells #[(.slice A0_0 l0_0.length c0_0), .int .i64 a0_1] 78 (0, 0))) ∧ Aside0 (Below w.heap.size w w'))
    case atStart => exact ⟨(0), Xr, H', Xkr, BK106, ⟨Xi⟩⟩
    case round =>
     clear H'
     (try clear c11)
     obtain ⟨x5_2, rfl, HA, HK2, BK106, HB⟩ := hrel
     cases gk with
     | zero => cases HA.out
     | succ k2 =>
      have H := HA.out
      clear HA
      simp only [spec_l03Term.l0] at H
      obtain ⟨c12b0, H⟩ | ⟨c12b0, H⟩ := Xit H
      ·obtain ⟨c13b0, H⟩ := Xid H
       obtain ⟨t109, A14, H⟩ := Xbi H
       (try dsimp only at H)
       by_cases c15 : t109 = true
       ·subst c15
        (first | rw [if_pos rfl] at H | skip)
        obtain ⟨c16, H⟩ | ⟨c16, H⟩ := Xiu H
        ·have c16b0 : decide (0 < x5_2) = true := decide_eq_true c16
         clear c16
         obtain ⟨ji17, hji17⟩ : ∃ j_ : Int, (wrap64 (x5_2 - 1)) = j_ := ⟨_, rfl⟩
         replace H : (if 0 ≤ (ji17) then (if (ji17) < (l0_0.length : Int) then (if (rd l0_0 x5_2) ≤ (rd l0_0 (ji17)) then (some false) else (spec_l03Term.l0 k2 a1 (wrap64 (x5_2 + 1)) l0_0 a0_1)) else (none)) else (none)) = some r := by first | (rw [hji17] at H; exact H) | (simp only [hji17] at H ⊢; exact H)
         (try rw [hji17] at A14)
         have hji17w : (IntKind.i64.wrap (x5_2 - 1)) = ji17 := (i64_w _).trans hji17
         obtain ⟨c18b0, H⟩ := Xid H
         obtain ⟨c19b0, H⟩ := Xid H
         have HC20 := Aside0.mk H
         clear H
         obtain ⟨hcz21_0, hcz21_1⟩ := Xc2 BK106
         have p108 : 0 ≤ (x5_2 : Int) := of_decide_eq_true Xa
         have q108 : x5_2 < (l0_0.length : Int) := of_decide_eq_true Xa
         obtain ⟨ad108, e108, hx108_0⟩ := Kd.at_int HR0_0.out x5_2 p108 q108
         cases e108
         replace hx108_0 := Xm HB hx108_0
         replace p108 := eq_true p108
         replace q108 := eq_true q108
         go_upto_if 55 with (first | (go_at_call 105; (with_reducible refine (spec_l01In.calls (rd l0_0 x5_2) 1 a1 true _ A14.out).mono ?_); rintro e w' ⟨rfl, ⟨nd, rfl⟩⟩; (try exact Xdd); have p110 : 0 ≤ (x5_2 : Int) := of_decide_eq_true Xa; have q110 : x5_2 < (l0_0.length : Int) := of_decide_eq_true Xa; obtain ⟨ad110, e110, hx110_0⟩ := Kd.at_int HR0_0.out x5_2 p110 q110; obtain rfl : ad108 = ad110 := (by injection e110); replace hx110_0 := Xm HB hx110_0; replace p110 := eq_true p110; replace q110 := eq_true q110; have p111 : 0 ≤ ((ji17) : Int) := of_decide_eq_true Xa; have q111 : (ji17) < (l0_0.length : Int) := of_decide_eq_true Xa; obtain ⟨ad111, e111, hx111_0⟩ := Kd.at_int HR0_0.out (ji17) p111 q111; obtain rfl : ad108 = ad111 := (by injection e111); replace hx111_0 := Xm HB hx111_0; replace p111 := eq_true p111; replace q111 := eq_true q111))
         repeat (go_quiet (first | (go_at_call 105; (with_reducible refine (spec_l01In.calls (rd l0_0 x5_2) 1 a1 true _ A14.out).mono ?_); rintro e w' ⟨rfl, ⟨nd, rfl⟩⟩; (try exact Xdd); have p110 : 0 ≤ (x5_2 : Int) := of_decide_eq_true Xa; have q110 : x5_2 < (l0_0.length : Int) := of_decide_eq_true Xa; obtain ⟨ad110, e110, hx110_0⟩ := Kd.at_int HR0_0.out x5_2 p110 q110; obtain rfl : ad108 = ad110 := (by injection e110); replace hx110_0 := Xm HB hx110_0; replace p110 := eq_true p110; replace q110 := eq_true q110; have p111 : 0 ≤ ((ji17) : Int) := of_decide_eq_true Xa; have q111 : (ji17) < (l0_0.length : Int) := of_decide_eq_true Xa; obtain ⟨ad111, e111, hx111_0⟩ := Kd.at_int HR0_0.out (ji17) p111 q111; obtain rfl : ad108 = ad111 := (by injection e111); replace hx111_0 := Xm HB hx111_0; replace p111 := eq_true p111; replace q111 := eq_true q111)); go_upto_if 55 with (first | (go_at_call 105; (with_reducible refine (spec_l01In.calls (rd l0_0 x5_2) 1 a1 true _ A14.out).mono ?_); rintro e w' ⟨rfl, ⟨nd, rfl⟩⟩; (try exact Xdd); have p110 : 0 ≤ (x5_2 : Int) := of_decide_eq_true Xa; have q110 : x5_2 < (l0_0.length : Int) := of_decide_eq_true Xa; obtain ⟨ad110, e110, hx110_0⟩ := Kd.at_int HR0_0.out x5_2 p110 q110; obtain rfl : ad108 = ad110 := (by injection e110); replace hx110_0 := Xm HB hx110_0; replace p110 := eq_true p110; replace q110 := eq_true q110; have p111 : 0 ≤ ((ji17) : Int) := of_decide_eq_true Xa; have q111 : (ji17) < (l0_0.length : Int) := of_decide_eq_true Xa; obtain ⟨ad111, e111, hx111_0⟩ := Kd.at_int HR0_0.out (ji17) p111 q111; obtain rfl : ad108 = ad111 := (by injection e111); replace hx111_0 := Xm HB hx111_0; replace p111 := eq_true p111; replace q111 := eq_true q111)))
         have H := HC20.out
         clear HC20
         obtain ⟨c22b0, H⟩ | ⟨c22b0, H⟩ := Xit H
         ·(first | rw [c22b0] | (simp only [i64_w, i32_w]; rw [c22b0]) | skip)
          obtain rfl := Option.some.inj H
          go_wp2
          repeat (go_quiet (fail); try go_wp2)
          go_ret
          exact ⟨by first | rfl | (simp [errW_none, errW_some] <;> rfl) | (simp only [← hji17]; first | rfl | (simp [errW_none, errW_some] <;> rfl)) | (simp [*, errW_none, errW_some] <;> rfl), Xi⟩
         ·(first | rw [c22b0] | (simp only [i64_w, i32_w]; rw [c22b0]) | skip)
          have H' := Aside0.mk H
          clear H
          go_wp2
          repeat (go_quiet (fail); try go_wp2)
          go_roundg k2
          case measure => have := HJ2.out; have := HK2.out; omega
          case rel => exact ⟨(wrap64 (x5_2 + 1)), Xr, H', ⟨by have := HJ2.out; have := HK2.out; omega⟩, BK106, ⟨Xi⟩⟩
        ·have c16b0 : decide (0 < x5_2) = false := decide_eq_false c16
         clear c16
         have H' := Aside0.mk H
         clear H
         obtain ⟨hcz23_0, hcz23_1⟩ := Xc2 BK106
         have p108 : 0 ≤ (x5_2 : Int) := of_decide_eq_true Xa
         have q108 : x5_2 < (l0_0.length : Int) := of_decide_eq_true Xa
         obtain ⟨ad108, e108, hx108_0⟩ := Kd.at_int HR0_0.out x5_2 p108 q108
         cases e108
         replace hx108_0 := Xm HB hx108_0
         replace p108 := eq_true p108
         replace q108 := eq_true q108
         go_wp2_with (first | (go_at_call 105; (with_reducible refine (spec_l01In.calls (rd l0_0 x5_2) 1 a1 true _ A14.out).mono ?_); rintro e w' ⟨rfl, ⟨nd, rfl⟩⟩; (try exact Xdd)))
         repeat (go_quiet (first | (go_at_call 105; (with_reducible refine (spec_l01In.calls (rd l0_0 x5_2) 1 a1 true _ A14.out).mono ?_); rintro e w' ⟨rfl, ⟨nd, rfl⟩⟩; (try exact Xdd))); try go_wp2_with (first | (go_at_call 105; (with_reducible refine (spec_l01In.calls (rd l0_0 x5_2) 1 a1 true _ A14.out).mono ?_); rintro e w' ⟨rfl, ⟨nd, rfl⟩⟩; (try exact Xdd))))
         go_roundg k2
         case measure => have := HJ2.out; have := HK2.out; omega
         case rel => exact ⟨(wrap64 (x5_2 + 1)), Xr, H', ⟨by have := HJ2.out; have := HK2.out; omega⟩, BK106, ⟨Xi⟩⟩
       ·replace c15 := Bool.eq_false_iff.mpr c15
        subst c15
        (first | rw [if_neg (show ¬ (false = true) by decide)] at H | skip)
        obtain rfl := Option.some.inj H
        obtain ⟨hcz24_0, hcz24_1⟩ := Xc2 BK106
        have p108 : 0 ≤ (x5_2 : Int) := of_decide_eq_true Xa
        have q108 : x5_2 < (l0_0.length : Int) := of_decide_eq_true Xa
        obtain ⟨ad108, e108, hx108_0⟩ := Kd.at_int HR0_0.out x5_2 p108 q108
        cases e108
        replace hx108_0 := Xm HB hx108_0
        replace p108 := eq_true p108
        replace q108 := eq_true q108
        go_wp2_with (first | (go_at_call 105; (with_reducible refine (spec_l01In.calls (rd l0_0 x5_2) 1 a1 false _ A14.out).mono ?_); rintro e w' ⟨rfl, ⟨nd, rfl⟩⟩; (try exact Xdd)))
        repeat (go_quiet (first | (go_at_call 105; (with_reducible refine (spec_l01In.calls (rd l0_0 x5_2) 1 a1 false _ A14.out).mono ?_); rintro e w' ⟨rfl, ⟨nd, rfl⟩⟩; (try exact Xdd))); try go_wp2_with (first | (go_at_call 105; (with_reducible refine (spec_l01In.calls (rd l0_0 x5_2) 1 a1 false _ A14.out).mono ?_); rintro e w' ⟨rfl, ⟨nd, rfl⟩⟩; (try exact Xdd))))
        go_ret
        exact ⟨Xe, Xi⟩
      ·obtain rfl := Option.some.inj H
       obtain ⟨hcz25_0, hcz25_1⟩ := Xc2 BK106
       go_wp2
       repeat (go_quiet (fail); try go_wp2)
       go_ret
       exact ⟨Xe, Xi⟩

/-! ### spec_l03Terms: function 43 -/
def spec_l03Terms.l0 : Nat → List (S78) → Int → Option (Bool)
 | 0, _, _ => none
 | k + 1, x0, x3 => if x3 < (x0.length : Int) then (if 0 ≤ x3 then ((spec_l03Term.f k ((rd_T78 x0 x3).f0) ((rd_T78 x0 x3).f1) 8).bind fun t113 => (if t113 = true then (spec_l03Terms.l0 k x0 (wrap64 (x3 + 1))) else (some false))) else (none)) else (some true)
def spec_l03Terms.f (k : Nat) (l0 : List (S78)) : Option (Bool) := if (l0.length : Int) > 4 then (some false) else (spec_l03Terms.l0 k l0 0)
set_option maxHeartbeats 8000000 in
set_option maxRecDepth 100000 in
theorem spec_l03Terms.calls (k : Nat) (A0 : Option Addr) (c0 : Nat) (l0 : List (S78)) (r : Bool) (w : World) (hr0 : Kd.C k78 w A0 l0.length l0) (hc0 : l0.length ≤ c0) (h : spec_l03Terms.f k l0 = some r) :
  Calls Try.prog 43 #[.slice A0 l0.length c0] w fun e w' => e = .returned (.bool r) ∧ Below w.heap.size w w' := by
 have hu78 := Try.underlying78
 have HR0 := Aside0.mk hr0
 have HC0 := Aside0.mk hc0
 clear hr0 hc0
 have HB := Aside0.mk (Below.refl w.heap.size w)
 have H : (if (l0.length : Int) > 4 then (some false) else (spec_l03Terms.l0 k l0 0)) = some r := h
 clear h
 obtain ⟨c2, H⟩ | ⟨c2, H⟩ := Xiu H
 ·have c2b0 : decide (4 < (l0.length : Int)) = true := decide_eq_true c2
  have c2b1 : decide (4 < l0.length) = true := decide_eq_true (by omega)
  clear c2
  obtain rfl := Option.some.inj H
  go_enter Try.func43, Try.ntmps43
  go_wp2
  go_ret
  exact ⟨Xe, Xi⟩
 ·have c2b0 : decide (4 < (l0.length : Int)) = false := decide_eq_false c2
  have c2b1 : decide (4 < l0.length) = false := decide_eq_false (by omega)
  clear c2
  have H' := Aside0.mk H
  clear H
  go_enter Try.func43, Try.ntmps43
  go_wp2
  go_loopg [3] k (fun kq v3 w' => ∃ (x3_1 : Int), v3 = .int .i64 x3_1 ∧ Aside0 (spec_l03Terms.l0 kq l0 x3_1 = some r) ∧ Aside0 (kq ≤ k) ∧ Aside0 (Below w.heap.size w w'))
  case atStart => exact ⟨(0), Xr, H', Xkr, ⟨Xi⟩⟩
  case round =>
   clear H'
   (try clear c2); (try clear c2b0); (try clear c2b1)
   obtain ⟨x3_1, rfl, HA, HK1, HB⟩ := hrel
   cases gk with
   | zero => cases HA.out
   | succ k1 =>
    have H := HA.out
    clear HA
    simp only [spec_l03Terms.l0] at H
    obtain ⟨c3b0, H⟩ | ⟨c3b0, H⟩ := Xit H
    ·obtain ⟨c4b0, H⟩ := Xid H
     obtain ⟨t113, A5, H⟩ := Xbi H
     (try dsimp only at H)
     have HC6 := Aside0.mk H
     clear H
     obtain ⟨ad112, A112_0, c112_0, e112, p112, q112, hx112_0, hx112_1, HC112_0, HR112_0⟩ := at_B78 HR0 x3_1 Xa Xa HB
     cases e112
     go_upto_if 18 with (first | ((with_reducible refine gate_callee (f := 92) rfl ?_); refine Xgo 17 Try.func92 #[.agg #[.slice A112_0 ((rd_T78 l0 x3_1).f0).length c112_0, .int .i64 ((rd_T78 l0 x3_1).f1)], .int .i64 8] ?_; (with_reducible refine (spec_l03Term.calls k1 _ _ ((rd_T78 l0 x3_1).f0) ((rd_T78 l0 x3_1).f1) 8 t113 _ ?side1 ?side2 A5.out).mono ?_); (case side1 => exact Xc HR112_0); (case side2 => exact HC112_0.out); rintro e w7 ⟨rfl, hb⟩; refine ⟨_, rfl, ?_⟩; replace HB := Aside0.mk (below_step Xi hb); clear hb))
     have H := HC6.out
     clear HC6
     by_cases c8 : t113 = true
     ·subst c8
      (first | rw [if_pos rfl] at H | skip)
      have H' := Aside0.mk H
      clear H
      go_wp2
      go_roundg k1
      case measure => have := HK1.out; omega
      case rel => exact ⟨(wrap64 (x3_1 + 1)), Xr, H', Xk1, ⟨Xi⟩⟩
     ·replace c8 := Bool.eq_false_iff.mpr c8
      subst c8
      (first | rw [if_neg (show ¬ (false = true) by decide)] at H | skip)
      obtain rfl := Option.some.inj H
      go_wp2
      go_ret
      exact ⟨Xe, Xi⟩
    ·obtain rfl := Option.some.inj H
     go_wp2
     go_ret
     exact ⟨Xe, Xi⟩

/-! ### spec_l03Least: function 119 -/
def spec_l03Least.f (a0 : Int) : Option (Int) := if a0 = 0 then (some 1) else (if a0 = 3 then (some 1) else (some 0))
set_option maxHeartbeats 8000000 in
set_option maxRecDepth 100000 in
theorem spec_l03Least.calls (a0 : Int) (r : Int) (w : World) (h : spec_l03Least.f a0 = some r) :
  Calls Try.prog 119 #[.int .i64 a0] w fun e w' => e = .returned (.int .i64 r) ∧ Drawn0 w w' := by
 have H : (if a0 = 0 then (some 1) else (if a0 = 3 then (some 1) else (some 0))) = some r := h
 clear h
 obtain ⟨c2, H⟩ | ⟨c2, H⟩ := Xiu H
 ·have c2b0 : (a0 == 0) = true := beq_iff_eq.mpr c2
  have c2b1 : (a0 != 0) = false := bne_eq_false_iff_eq.mpr c2
  clear c2
  obtain rfl := Option.some.inj H
  go_enter Try.func119, Try.ntmps119
  go_wp2
  go_ret
  exact ⟨Xr, Xdr⟩
 ·have c2b0 : (a0 == 0) = false := beq_eq_false_iff_ne.mpr c2
  have c2b1 : (a0 != 0) = true := bne_iff_ne.mpr c2
  obtain ⟨c3, H⟩ | ⟨c3, H⟩ := Xiu H
  ·have c3b0 : (a0 == 3) = true := beq_iff_eq.mpr c3
   have c3b1 : (a0 != 3) = false := bne_eq_false_iff_eq.mpr c3
   clear c3
   obtain rfl := Option.some.inj H
   go_enter Try.func119, Try.ntmps119
   go_wp2
   go_ret
   exact ⟨Xr, Xdr⟩
  ·have c3b0 : (a0 == 3) = false := beq_eq_false_iff_ne.mpr c3
   have c3b1 : (a0 != 3) = true := bne_iff_ne.mpr c3
   obtain rfl := Option.some.inj H
   go_enter Try.func119, Try.ntmps119
   go_wp2
   go_ret
   exact ⟨Xr, Xdr⟩

end Go.Proofs.Ythkbgbkglgmpoaa.XA
