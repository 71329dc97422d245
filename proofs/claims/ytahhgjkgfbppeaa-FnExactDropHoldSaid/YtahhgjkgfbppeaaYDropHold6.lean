/- Contracts of the program's functions: each Go function that is named below comes to what its Lean function says. Written by xprint.py (a program of this session's, over the kit's print). Conditions: each contract's own premises. -/
import Derived.Test.YtahhgjkgfbppeaaYDropHold0
import Derived.Test.YtahhgjkgfbppeaaYDropHold1
import Derived.Test.YtahhgjkgfbppeaaYDropHold4
import Derived.Test.YtahhgjkgfbppeaaYDropHold5
namespace Go.Proofs.Ytahhgjkgfbppeaa.XA
open Go.RowKit Go.Proofs.YtahhgjkgfbppeaaW.PrintWords Go.Proofs.YtahhgjkgfbppeaaW.PrintLast Go.Proofs.YtahhgjkgfbppeaaW.PrintMore XW
attribute [local go_sem] max2_int min2_int max_two min_two max_three min_three max_four min_four   -- for this text's walks alone
set_option linter.unusedVariables false
set_option linter.unusedSimpArgs false

/-! ### spec_HoldsOK: function 138 -/
def spec_HoldsOK.f (k : Nat) (a0_0 : Int) (a0_1 : Int) (l0_2 : List (S73)) (l1 : List (S44)) : Option (Bool) := if (l1.length : Int) > 4096 then (some false) else ((spec_l02OK.f k a0_0 a0_1 l0_2).bind fun t166 => (if t166 = true then ((spec_l07Holds.f k a0_0 a0_1 l0_2 l1).bind fun t167 => (some t167)) else (some false)))
set_option maxHeartbeats 8000000 in
set_option maxRecDepth 100000 in
theorem spec_HoldsOK.calls (k : Nat) (a0_0 : Int) (a0_1 : Int) (A0_2 : Option Addr) (c0_2 : Nat) (l0_2 : List (S73)) (A1 : Option Addr) (c1 : Nat) (l1 : List (S44)) (r : Bool) (w : World) (hr0_2 : Kd.C k73 w A0_2 l0_2.length l0_2) (hc0_2 : l0_2.length ≤ c0_2) (hr1 : Kd.C k44 w A1 l1.length l1) (hc1 : l1.length ≤ c1) (h : spec_HoldsOK.f k a0_0 a0_1 l0_2 l1 = some r) :
  Calls Try.prog 138 #[.agg #[.int .i64 a0_0, .int .i64 a0_1, .slice A0_2 l0_2.length c0_2], .slice A1 l1.length c1] w fun e w' => e = .returned (.bool r) ∧ Below w.heap.size w w' := by
 have hu33 := Try.underlying33
 have HR0_2 := Aside0.mk hr0_2
 have HC0_2 := Aside0.mk hc0_2
 clear hr0_2 hc0_2
 have HR1 := Aside0.mk hr1
 have HC1 := Aside0.mk hc1
 clear hr1 hc1
 have HB := Aside0.mk (Below.refl w.heap.size w)
 have H : (if (l1.length : Int) > 4096 then (some false) else ((spec_l02OK.f k a0_0 a0_1 l0_2).bind fun t166 => (if t166 = true then ((spec_l07Holds.f k a0_0 a0_1 l0_2 l1).bind fun t167 => (some t167)) else (some false)))) = some r := h
 clear h
 have HC3 := Aside0.mk H
 clear H
 go_enter Try.func138, Try.ntmps138
 go_upto_if 7 with (first | ((with_reducible refine gate_dst (N := 2) rfl ?_); refine Xbox 2 #[.int .i64 a0_0, .int .i64 a0_1, .slice A0_2 l0_2.length c0_2] 33 ?_; intro gb165 hg w4 hbox hb; have BK165 := Aside0.mk (hbox); have GE165 := Xge hg Xi; replace HB := Aside0.mk (below_step Xi hb); clear hb hbox hg))
 have H := HC3.out
 clear HC3
 obtain ⟨c5, H⟩ | ⟨c5, H⟩ := Xiu H
 ·have c5b0 : decide (4096 < (l1.length : Int)) = true := decide_eq_true c5
  have c5b1 : decide (4096 < l1.length) = true := decide_eq_true (by omega)
  clear c5
  (first | rw [c5b0] | (simp only [i64_w, i32_w]; rw [c5b0]) | skip)
  obtain rfl := Option.some.inj H
  go_wp2
  go_ret
  exact ⟨Xe, Xi⟩
 ·have c5b0 : decide (4096 < (l1.length : Int)) = false := decide_eq_false c5
  have c5b1 : decide (4096 < l1.length) = false := decide_eq_false (by omega)
  clear c5
  (first | rw [c5b0] | (simp only [i64_w, i32_w]; rw [c5b0]) | skip)
  obtain ⟨t166, A6, H⟩ := Xbi H
  (try dsimp only at H)
  by_cases c7 : t166 = true
  ·subst c7
   (first | rw [if_pos rfl] at H | skip)
   obtain ⟨t167, A8, H⟩ := Xbi H
   (try dsimp only at H)
   obtain rfl := Option.some.inj H
   obtain ⟨hcz9_0, hcz9_1, hcz9_2⟩ := Xc3 BK165
   go_wp2_with (first | ((with_reducible refine gate_callee (f := 165) rfl ?_); refine Xgo 9 Try.func165 #[.agg #[.int .i64 a0_0, .int .i64 a0_1, .slice A0_2 l0_2.length c0_2]] ?_; (with_reducible refine (spec_l02OK.calls k a0_0 a0_1 _ _ l0_2 true _ ?side1 ?side2 A6.out).mono ?_); (case side1 => exact Xc HR0_2); (case side2 => exact HC0_2.out); rintro e w10 ⟨rfl, hb⟩; refine ⟨_, rfl, ?_⟩; replace BK165 := Xbb BK165 hb; replace HB := Aside0.mk (below_step Xi hb); clear hb; obtain ⟨hcz11_0, hcz11_1, hcz11_2⟩ := Xc3 BK165) | (go_at_call 199; (with_reducible refine (spec_l07Holds.calls k a0_0 a0_1 _ _ l0_2 _ _ l1 t167 _ ?side1 ?side2 ?side3 ?side4 A8.out).mono ?_); (case side1 => exact Xc HR0_2); (case side2 => exact HC0_2.out); (case side3 => exact Xc HR1); (case side4 => exact HC1.out); rintro e w12 ⟨rfl, hb⟩; replace BK165 := Xbb BK165 hb; replace HB := Aside0.mk (below_step Xi hb); clear hb))
   go_ret
   exact ⟨Xe, Xi⟩
  ·replace c7 := Bool.eq_false_iff.mpr c7
   subst c7
   (first | rw [if_neg (show ¬ (false = true) by decide)] at H | skip)
   obtain rfl := Option.some.inj H
   obtain ⟨hcz13_0, hcz13_1, hcz13_2⟩ := Xc3 BK165
   go_wp2_with (first | ((with_reducible refine gate_callee (f := 165) rfl ?_); refine Xgo 9 Try.func165 #[.agg #[.int .i64 a0_0, .int .i64 a0_1, .slice A0_2 l0_2.length c0_2]] ?_; (with_reducible refine (spec_l02OK.calls k a0_0 a0_1 _ _ l0_2 false _ ?side1 ?side2 A6.out).mono ?_); (case side1 => exact Xc HR0_2); (case side2 => exact HC0_2.out); rintro e w14 ⟨rfl, hb⟩; refine ⟨_, rfl, ?_⟩; replace BK165 := Xbb BK165 hb; replace HB := Aside0.mk (below_step Xi hb); clear hb))
   go_ret
   exact ⟨Xe, Xi⟩

/-! ### spec_l07Ask: function 65 -/
def spec_l07Ask.f (k : Nat) (a0_0 : Int) (a0_1 : Int) (l0_2 : List (S73)) (l1 : List (S44)) (a2 : Int) (a3 : Int) : Option (Int) := if (l1.length : Int) > 4096 then (some 2) else ((spec_HoldsOK.f k a0_0 a0_1 l0_2 l1).bind fun t169 => (if t169 = true then ((spec_l01In.f a2 1 999).bind fun t170 => (if t170 = true then ((spec_l02At.f k a0_0 a0_1 l0_2 a3).bind fun t171 => (if t171 < 0 then (some 5) else (some 0))) else (some 4))) else (some 1)))
set_option maxHeartbeats 8000000 in
set_option maxRecDepth 100000 in
theorem spec_l07Ask.calls (k : Nat) (a0_0 : Int) (a0_1 : Int) (A0_2 : Option Addr) (c0_2 : Nat) (l0_2 : List (S73)) (A1 : Option Addr) (c1 : Nat) (l1 : List (S44)) (a2 : Int) (a3 : Int) (r : Int) (w : World) (hr0_2 : Kd.C k73 w A0_2 l0_2.length l0_2) (hc0_2 : l0_2.length ≤ c0_2) (hr1 : Kd.C k44 w A1 l1.length l1) (hc1 : l1.length ≤ c1) (h : spec_l07Ask.f k a0_0 a0_1 l0_2 l1 a2 a3 = some r) :
  Calls Try.prog 65 #[.agg #[.int .i64 a0_0, .int .i64 a0_1, .slice A0_2 l0_2.length c0_2], .slice A1 l1.length c1, .int .i64 a2, .int .i64 a3] w fun e w' => e = .returned (.int .i64 r) ∧ Below w.heap.size w w' := by
 have hu33 := Try.underlying33
 have HR0_2 := Aside0.mk hr0_2
 have HC0_2 := Aside0.mk hc0_2
 clear hr0_2 hc0_2
 have HR1 := Aside0.mk hr1
 have HC1 := Aside0.mk hc1
 clear hr1 hc1
 have HB := Aside0.mk (Below.refl w.heap.size w)
 have H : (if (l1.length : Int) > 4096 then (some 2) else ((spec_HoldsOK.f k a0_0 a0_1 l0_2 l1).bind fun t169 => (if t169 = true then ((spec_l01In.f a2 1 999).bind fun t170 => (if t170 = true then ((spec_l02At.f k a0_0 a0_1 l0_2 a3).bind fun t171 => (if t171 < 0 then (some 5) else (some 0))) else (some 4))) else (some 1)))) = some r := h
 clear h
 have HC5 := Aside0.mk H
 clear H
 go_enter Try.func65, Try.ntmps65
 go_upto_if 11 with (first | ((with_reducible refine gate_dst (N := 4) rfl ?_); refine Xbox 4 #[.int .i64 a0_0, .int .i64 a0_1, .slice A0_2 l0_2.length c0_2] 33 ?_; intro gb168 hg w6 hbox hb; have BK168 := Aside0.mk (hbox); have GE168 := Xge hg Xi; replace HB := Aside0.mk (below_step Xi hb); clear hb hbox hg))
 have H := HC5.out
 clear HC5
 obtain ⟨c7, H⟩ | ⟨c7, H⟩ := Xiu H
 ·have c7b0 : decide (4096 < (l1.length : Int)) = true := decide_eq_true c7
  have c7b1 : decide (4096 < l1.length) = true := decide_eq_true (by omega)
  clear c7
  (first | rw [c7b0] | (simp only [i64_w, i32_w]; rw [c7b0]) | skip)
  obtain rfl := Option.some.inj H
  go_wp2
  go_ret
  exact ⟨Xe, Xi⟩
 ·have c7b0 : decide (4096 < (l1.length : Int)) = false := decide_eq_false c7
  have c7b1 : decide (4096 < l1.length) = false := decide_eq_false (by omega)
  clear c7
  (first | rw [c7b0] | (simp only [i64_w, i32_w]; rw [c7b0]) | skip)
  obtain ⟨t169, A8, H⟩ := Xbi H
  (try dsimp only at H)
  have HC9 := Aside0.mk H
  clear H
  obtain ⟨hcz10_0, hcz10_1, hcz10_2⟩ := Xc3 BK168
  go_upto_if 15 with (first | ((with_reducible refine gate_callee (f := 138) rfl ?_); refine Xgo 14 Try.func138 #[.agg #[.int .i64 a0_0, .int .i64 a0_1, .slice A0_2 l0_2.length c0_2], .slice A1 l1.length c1] ?_; (with_reducible refine (spec_HoldsOK.calls k a0_0 a0_1 _ _ l0_2 _ _ l1 t169 _ ?side1 ?side2 ?side3 ?side4 A8.out).mono ?_); (case side1 => exact Xc HR0_2); (case side2 => exact HC0_2.out); (case side3 => exact Xc HR1); (case side4 => exact HC1.out); rintro e w11 ⟨rfl, hb⟩; refine ⟨_, rfl, ?_⟩; replace BK168 := Xbb BK168 hb; replace HB := Aside0.mk (below_step Xi hb); clear hb))
  have H := HC9.out
  clear HC9
  by_cases c12 : t169 = true
  ·subst c12
   (first | rw [if_pos rfl] at H | skip)
   obtain ⟨t170, A13, H⟩ := Xbi H
   (try dsimp only at H)
   have HC14 := Aside0.mk H
   clear H
   go_upto_if 18 with (first | ((with_reducible refine gate_callee (f := 85) rfl ?_); refine Xgo 17 Try.func85 #[.int .i64 a2, .int .i64 1, .int .i64 999] ?_; (with_reducible refine (spec_l01In.calls a2 1 999 t170 _ A13.out).mono ?_); rintro e w' ⟨rfl, ⟨nd, rfl⟩⟩; refine ⟨_, rfl, ?_⟩))
   have H := HC14.out
   clear HC14
   by_cases c15 : t170 = true
   ·subst c15
    (first | rw [if_pos rfl] at H | skip)
    obtain ⟨t171, A16, H⟩ := Xbi H
    (try dsimp only at H)
    have HC17 := Aside0.mk H
    clear H
    obtain ⟨hcz18_0, hcz18_1, hcz18_2⟩ := Xc3 BK168
    go_upto_if 22 with (first | ((with_reducible refine gate_callee (f := 139) rfl ?_); refine Xgo 21 Try.func139 #[.agg #[.int .i64 a0_0, .int .i64 a0_1, .slice A0_2 l0_2.length c0_2], .int .i64 a3] ?_; (with_reducible refine (spec_l02At.calls k a0_0 a0_1 _ _ l0_2 a3 t171 _ ?side1 ?side2 A16.out).mono ?_); (case side1 => exact Xc HR0_2); (case side2 => exact HC0_2.out); rintro e w19 ⟨rfl, hb⟩; refine ⟨_, rfl, ?_⟩; replace BK168 := Xbb BK168 hb; replace HB := Aside0.mk (below_step Xi hb); clear hb))
    have H := HC17.out
    clear HC17
    obtain ⟨c20b0, H⟩ | ⟨c20b0, H⟩ := Xit H
    ·(first | rw [c20b0] | (simp only [i64_w, i32_w]; rw [c20b0]) | skip)
     obtain rfl := Option.some.inj H
     go_wp2
     go_ret
     exact ⟨Xe, Xi⟩
    ·(first | rw [c20b0] | (simp only [i64_w, i32_w]; rw [c20b0]) | skip)
     obtain rfl := Option.some.inj H
     go_wp2
     go_ret
     exact ⟨Xe, Xi⟩
   ·replace c15 := Bool.eq_false_iff.mpr c15
    subst c15
    (first | rw [if_neg (show ¬ (false = true) by decide)] at H | skip)
    obtain rfl := Option.some.inj H
    go_wp2
    go_ret
    exact ⟨Xe, Xi⟩
  ·replace c12 := Bool.eq_false_iff.mpr c12
   subst c12
   (first | rw [if_neg (show ¬ (false = true) by decide)] at H | skip)
   obtain rfl := Option.some.inj H
   go_wp2
   go_ret
   exact ⟨Xe, Xi⟩

/-! ### spec_l07Own: function 66 -/
def spec_l07Own.l0 : Nat → List (S44) → Int → Int → Int → Option (Int)
 | 0, _, _, _, _ => none
 | k + 1, x0, x1, x2, x7 => if x7 < (x0.length : Int) then (if 0 ≤ x7 then (if ((rd_T44 x0 x7).f0) = x1 then (if ((rd_T44 x0 x7).f1) = x2 then (some ((rd_T44 x0 x7).f2)) else (spec_l07Own.l0 k x0 x1 x2 (wrap64 (x7 + 1)))) else (spec_l07Own.l0 k x0 x1 x2 (wrap64 (x7 + 1)))) else (none)) else (some 0)
def spec_l07Own.f (k : Nat) (l0 : List (S44)) (a1 : Int) (a2 : Int) : Option (Int) := spec_l07Own.l0 k l0 a1 a2 0
set_option maxHeartbeats 8000000 in
set_option maxRecDepth 100000 in
theorem spec_l07Own.calls (k : Nat) (A0 : Option Addr) (c0 : Nat) (l0 : List (S44)) (a1 : Int) (a2 : Int) (r : Int) (w : World) (hr0 : Kd.C k44 w A0 l0.length l0) (hc0 : l0.length ≤ c0) (h : spec_l07Own.f k l0 a1 a2 = some r) :
  Calls Try.prog 66 #[.slice A0 l0.length c0, .int .i64 a1, .int .i64 a2] w fun e w' => e = .returned (.int .i64 r) ∧ Drawn0 w w' := by
 have HR0 := Aside0.mk hr0
 have HC0 := Aside0.mk hc0
 clear hr0 hc0
 have H : (spec_l07Own.l0 k l0 a1 a2 0) = some r := h
 clear h
 have H' := Aside0.mk H
 clear H
 go_enter Try.func66, Try.ntmps66
 go_wp2
 go_loopg [7] k (fun kq v7 w' => ∃ (x7_1 : Int), v7 = .int .i64 x7_1 ∧ Aside0 (spec_l07Own.l0 kq l0 a1 a2 x7_1 = some r) ∧ Aside0 (kq ≤ k) ∧ Drawn0 w w')
 case atStart => exact ⟨(0), Xr, H', Xkr, by repeat (first | exact Drawn0.refl _ | apply Drawn0.step)⟩
 case round =>
  clear H'
  obtain ⟨x7_1, rfl, HA, HK1, ⟨m1, rfl⟩⟩ := hrel
  cases gk with
  | zero => cases HA.out
  | succ k1 =>
   have H := HA.out
   clear HA
   simp only [spec_l07Own.l0] at H
   obtain ⟨c4b0, H⟩ | ⟨c4b0, H⟩ := Xit H
   ·obtain ⟨c5b0, H⟩ := Xid H
    obtain ⟨c6, H⟩ | ⟨c6, H⟩ := Xiu H
    ·have c6b0 : (((rd_T44 l0 x7_1).f0) == a1) = true := beq_iff_eq.mpr c6
     have c6b1 : (((rd_T44 l0 x7_1).f0) != a1) = false := bne_eq_false_iff_eq.mpr c6
     clear c6
     obtain ⟨c7, H⟩ | ⟨c7, H⟩ := Xiu H
     ·have c7b0 : (((rd_T44 l0 x7_1).f1) == a2) = true := beq_iff_eq.mpr c7
      have c7b1 : (((rd_T44 l0 x7_1).f1) != a2) = false := bne_eq_false_iff_eq.mpr c7
      clear c7
      obtain rfl := Option.some.inj H
      have p172 : 0 ≤ (x7_1 : Int) := of_decide_eq_true Xa
      have q172 : x7_1 < (l0.length : Int) := of_decide_eq_true Xa
      obtain ⟨ad172, e172, hx172_0, hx172_1, hx172_2⟩ := at_T44 HR0.out x7_1 p172 q172
      cases e172
      replace p172 := eq_true p172
      replace q172 := eq_true q172
      have p173 : 0 ≤ (x7_1 : Int) := of_decide_eq_true Xa
      have q173 : x7_1 < (l0.length : Int) := of_decide_eq_true Xa
      obtain ⟨ad173, e173, hx173_0, hx173_1, hx173_2⟩ := at_T44 HR0.out x7_1 p173 q173
      obtain rfl : ad172 = ad173 := (by injection e173)
      replace p173 := eq_true p173
      replace q173 := eq_true q173
      have p174 : 0 ≤ (x7_1 : Int) := of_decide_eq_true Xa
      have q174 : x7_1 < (l0.length : Int) := of_decide_eq_true Xa
      obtain ⟨ad174, e174, hx174_0, hx174_1, hx174_2⟩ := at_T44 HR0.out x7_1 p174 q174
      obtain rfl : ad172 = ad174 := (by injection e174)
      replace p174 := eq_true p174
      replace q174 := eq_true q174
      go_wp2
      go_ret
      exact ⟨Xr, Xdr⟩
     ·have c7b0 : (((rd_T44 l0 x7_1).f1) == a2) = false := beq_eq_false_iff_ne.mpr c7
      have c7b1 : (((rd_T44 l0 x7_1).f1) != a2) = true := bne_iff_ne.mpr c7
      have H' := Aside0.mk H
      clear H
      have p172 : 0 ≤ (x7_1 : Int) := of_decide_eq_true Xa
      have q172 : x7_1 < (l0.length : Int) := of_decide_eq_true Xa
      obtain ⟨ad172, e172, hx172_0, hx172_1, hx172_2⟩ := at_T44 HR0.out x7_1 p172 q172
      cases e172
      replace p172 := eq_true p172
      replace q172 := eq_true q172
      have p173 : 0 ≤ (x7_1 : Int) := of_decide_eq_true Xa
      have q173 : x7_1 < (l0.length : Int) := of_decide_eq_true Xa
      obtain ⟨ad173, e173, hx173_0, hx173_1, hx173_2⟩ := at_T44 HR0.out x7_1 p173 q173
      obtain rfl : ad172 = ad173 := (by injection e173)
      replace p173 := eq_true p173
      replace q173 := eq_true q173
      go_wp2
      go_roundg k1
      case measure => have := HK1.out; omega
      case rel => exact ⟨(wrap64 (x7_1 + 1)), Xr, H', Xk1, by repeat (first | exact Drawn0.refl _ | apply Drawn0.step)⟩
    ·have c6b0 : (((rd_T44 l0 x7_1).f0) == a1) = false := beq_eq_false_iff_ne.mpr c6
     have c6b1 : (((rd_T44 l0 x7_1).f0) != a1) = true := bne_iff_ne.mpr c6
     have H' := Aside0.mk H
     clear H
     have p172 : 0 ≤ (x7_1 : Int) := of_decide_eq_true Xa
     have q172 : x7_1 < (l0.length : Int) := of_decide_eq_true Xa
     obtain ⟨ad172, e172, hx172_0, hx172_1, hx172_2⟩ := at_T44 HR0.out x7_1 p172 q172
     cases e172
     replace p172 := eq_true p172
     replace q172 := eq_true q172
     go_wp2
     go_roundg k1
     case measure => have := HK1.out; omega
     case rel => exact ⟨(wrap64 (x7_1 + 1)), Xr, H', Xk1, by repeat (first | exact Drawn0.refl _ | apply Drawn0.step)⟩
   ·obtain rfl := Option.some.inj H
    go_wp2
    go_ret
    exact ⟨Xr, Xdr⟩

/-! ### spec_l07Drop: function 67 -/
def spec_l07Drop.l0 : Nat → List (S44) → Int → Int → List (S44) → Int → Option ((List (S44)))
 | 0, _, _, _, _, _ => none
 | k + 1, x0, x1, x2, x7, x8 => if x8 < (x0.length : Int) then (if 0 ≤ x8 then (if ((rd_T44 x0 x8).f0) = x1 then (if ((rd_T44 x0 x8).f1) = x2 then (spec_l07Drop.l0 k x0 x1 x2 x7 (wrap64 (x8 + 1))) else (if x7.length < 5864062014805 then (spec_l07Drop.l0 k x0 x1 x2 (x7 ++ [(⟨(rd_T44 x0 x8).f0, (rd_T44 x0 x8).f1, (rd_T44 x0 x8).f2⟩ : S44)]) (wrap64 (x8 + 1))) else (none))) else (if x7.length < 5864062014805 then (spec_l07Drop.l0 k x0 x1 x2 (x7 ++ [(⟨(rd_T44 x0 x8).f0, (rd_T44 x0 x8).f1, (rd_T44 x0 x8).f2⟩ : S44)]) (wrap64 (x8 + 1))) else (none))) else (none)) else (some x7)
def spec_l07Drop.f (k : Nat) (l0 : List (S44)) (a1 : Int) (a2 : Int) : Option ((List (S44))) := spec_l07Drop.l0 k l0 a1 a2 (([] : List (S44))) 0
set_option maxHeartbeats 8000000 in
set_option maxRecDepth 100000 in
theorem spec_l07Drop.calls (k : Nat) (A0 : Option Addr) (c0 : Nat) (l0 : List (S44)) (a1 : Int) (a2 : Int) (r : List (S44)) (w : World) (hr0 : Kd.C k44 w A0 l0.length l0) (hc0 : l0.length ≤ c0) (h : spec_l07Drop.f k l0 a1 a2 = some r) :
  Calls Try.prog 67 #[.slice A0 l0.length c0, .int .i64 a1, .int .i64 a2] w fun e w' => ∃ v0_ : Value, e = .returned (v0_) ∧ Kd.R k44 44 w' w.heap.size (fun _ => True) v0_ r ∧ Below w.heap.size w w' := by
 have hu44 := Try.underlying44
 have HR0 := Aside0.mk hr0
 have HC0 := Aside0.mk hc0
 clear hr0 hc0
 have HB := Aside0.mk (Below.refl w.heap.size w)
 have H : (spec_l07Drop.l0 k l0 a1 a2 (([] : List (S44))) 0) = some r := h
 clear h
 obtain ⟨y175, hy175⟩ : ∃ y_ : List (S44), y_ = (([] : List (S44))) := ⟨_, rfl⟩
 replace H : (spec_l07Drop.l0 k l0 a1 a2 y175 0) = some r := by first | (rw [hy175]; with_reducible exact H) | (have H2_ := (Option.bind_some _ _).symm.trans H; rw [hy175]; with_reducible exact H2_) | (have H2_ := (Option.bind_some _ _).symm.trans H; with_reducible exact H2_) | with_reducible exact H | (rw [hy175]; exact H) | exact H
 have Ny175 := Aside0.mk hy175
 clear hy175
 have H' := Aside0.mk H
 clear H
 go_enter Try.func67, Try.ntmps67
 go_wp2_with (first | ((with_reducible refine gate_dst (N := 9) rfl ?_); refine Kd.R_lit k44 _ 44 ?hg (N := 9) ?hd (xs := ([] : List (S44))) (inner := []) (ok := fun _ => True) (okp := fun _ => True) ?hr ?hp (fun _ hk => hk) trivial (Below.refl _ _) (Nat.le_refl _) (by simp) ?_; (case hd => rfl); (case hg => rfl); (case hr => first | (go_simp; done) | (go_simp; rfl)); (case hp => exact (Reps.none _ _)); intro v176 w4 ho5 hb hg_ hnew_; clear hg_ hnew_; (first | rw [← Ny175.out] at ho5 | (simp only [Int.reduceToNat] at ho5; rw [← Ny175.out] at ho5)); have HO177 := Aside0.mk (Kd.R_lower ho5 (below_size Xi)); replace HB := Aside0.mk (below_step Xi hb); clear hb ho5))
 go_loopg [7, 8] k (fun kq v7 v8 w' => ∃ (x7_1 : List (S44)) (x8_1 : Int), v8 = .int .i64 x8_1 ∧ Aside0 (spec_l07Drop.l0 kq l0 a1 a2 x7_1 x8_1 = some r) ∧ Aside0 (kq ≤ k) ∧ Aside0 (Kd.R k44 44 w' w.heap.size (fun _ => True) v7 x7_1) ∧ Aside0 (Below w.heap.size w w'))
 case atStart => exact ⟨(y175), (0), Xr, H', Xkr, (Xp' HO177), ⟨Xi⟩⟩
 case round =>
  clear H'
  obtain ⟨x7_1, x8_1, rfl, HA, HK1, HO_7, HB⟩ := hrel
  cases gk with
  | zero => cases HA.out
  | succ k1 =>
   have H := HA.out
   clear HA
   simp only [spec_l07Drop.l0] at H
   obtain ⟨c6b0, H⟩ | ⟨c6b0, H⟩ := Xit H
   ·obtain ⟨c7b0, H⟩ := Xid H
    obtain ⟨c8, H⟩ | ⟨c8, H⟩ := Xiu H
    ·have c8b0 : (((rd_T44 l0 x8_1).f0) == a1) = true := beq_iff_eq.mpr c8
     have c8b1 : (((rd_T44 l0 x8_1).f0) != a1) = false := bne_eq_false_iff_eq.mpr c8
     clear c8
     obtain ⟨c9, H⟩ | ⟨c9, H⟩ := Xiu H
     ·have c9b0 : (((rd_T44 l0 x8_1).f1) == a2) = true := beq_iff_eq.mpr c9
      have c9b1 : (((rd_T44 l0 x8_1).f1) != a2) = false := bne_eq_false_iff_eq.mpr c9
      clear c9
      have H' := Aside0.mk H
      clear H
      obtain ⟨ad178, e178, p178, q178, hx178_0, hx178_1, hx178_2⟩ := at_B44 HR0 x8_1 Xa Xa HB
      cases e178
      obtain ⟨ad179, e179, p179, q179, hx179_0, hx179_1, hx179_2⟩ := at_B44 HR0 x8_1 Xa Xa HB
      obtain rfl : ad178 = ad179 := (by injection e179)
      go_wp2
      go_roundg k1
      case measure => have := HK1.out; omega
      case rel => exact ⟨(x7_1), (wrap64 (x8_1 + 1)), Xr, H', Xk1, (Xp' HO_7), ⟨Xi⟩⟩
     ·have c9b0 : (((rd_T44 l0 x8_1).f1) == a2) = false := beq_eq_false_iff_ne.mpr c9
      have c9b1 : (((rd_T44 l0 x8_1).f1) != a2) = true := bne_iff_ne.mpr c9
      obtain ⟨c10, H⟩ := Xif H
      have LMc10 := Aside0.mk c10
      clear c10
      obtain ⟨y181, hy181⟩ : ∃ y_ : List (S44), y_ = (x7_1 ++ [(⟨(rd_T44 l0 x8_1).f0, (rd_T44 l0 x8_1).f1, (rd_T44 l0 x8_1).f2⟩ : S44)]) := ⟨_, rfl⟩
      replace H : (spec_l07Drop.l0 k1 l0 a1 a2 y181 (wrap64 (x8_1 + 1))) = some r := by first | (rw [hy181]; with_reducible exact H) | (have H2_ := (Option.bind_some _ _).symm.trans H; rw [hy181]; with_reducible exact H2_) | (have H2_ := (Option.bind_some _ _).symm.trans H; with_reducible exact H2_) | with_reducible exact H | (rw [hy181]; exact H) | exact H
      have Ny181 := Aside0.mk hy181
      clear hy181
      have H' := Aside0.mk H
      clear H
      obtain ⟨ad178, e178, p178, q178, hx178_0, hx178_1, hx178_2⟩ := at_B44 HR0 x8_1 Xa Xa HB
      cases e178
      obtain ⟨ad179, e179, p179, q179, hx179_0, hx179_1, hx179_2⟩ := at_B44 HR0 x8_1 Xa Xa HB
      obtain rfl : ad178 = ad179 := (by injection e179)
      obtain ⟨ad180, e180, p180, q180, hx180_0, hx180_1, hx180_2⟩ := at_B44 HR0 x8_1 Xa Xa HB
      obtain rfl : ad178 = ad180 := (by injection e180)
      go_wp2_with (first | ((with_reducible refine gate_builtin (b := .append) (xs := #[.tmp 32, .tmp 37]) rfl ?_); at_builtin; refine Kd.R_append k44 (w0 := w) w.heap.size rfl (.tmp 32) (.tmp 37) 28 44 (.agg #[(.int .i64 0), (.int .i64 0), (.int .i64 0)]) 24 rfl Try.underlying28 info44 rfl (by decide) (by omega) u7 x7_1 (⟨(rd_T44 l0 x8_1).f0, (rd_T44 l0 x8_1).f1, (rd_T44 l0 x8_1).f2⟩ : S44) [.int .i64 ((rd_T44 l0 x8_1).f0), .int .i64 ((rd_T44 l0 x8_1).f1), .int .i64 ((rd_T44 l0 x8_1).f2)] (fun _ => True) (fun _ => False) rfl rfl ?aP (fun _ hk => hk.elim) ?aF ?aO ?aB ?aS ?aL ?_; (case aP => exact k44_mkM _ _ _ (⟨(rd_T44 l0 x8_1).f0, (rd_T44 l0 x8_1).f1, (rd_T44 l0 x8_1).f2⟩ : S44)); (case aB => exact Xi); (case aF => exact (fun _ _ => trivial)); (case aO => exact (Xq HO_7)); (case aS => exact (below_size Xi)); (case aL => have := LMc10.out; omega); intro v182 w11 ho hb hg hat; rw [← Ny181.out] at ho; replace HB := Aside0.mk (hb); have HO183 := Aside0.mk (ho); clear HO_7; clear ho hb hg hat))
      go_roundg k1
      case measure => have := HK1.out; omega
      case rel => exact ⟨(y181), (wrap64 (x8_1 + 1)), Xr, H', Xk1, (Xp' HO183), ⟨Xi⟩⟩
    ·have c8b0 : (((rd_T44 l0 x8_1).f0) == a1) = false := beq_eq_false_iff_ne.mpr c8
     have c8b1 : (((rd_T44 l0 x8_1).f0) != a1) = true := bne_iff_ne.mpr c8
     obtain ⟨c12, H⟩ := Xif H
     have LMc12 := Aside0.mk c12
     clear c12
     obtain ⟨y185, hy185⟩ : ∃ y_ : List (S44), y_ = (x7_1 ++ [(⟨(rd_T44 l0 x8_1).f0, (rd_T44 l0 x8_1).f1, (rd_T44 l0 x8_1).f2⟩ : S44)]) := ⟨_, rfl⟩
     replace H : (spec_l07Drop.l0 k1 l0 a1 a2 y185 (wrap64 (x8_1 + 1))) = some r := by first | (rw [hy185]; with_reducible exact H) | (have H2_ := (Option.bind_some _ _).symm.trans H; rw [hy185]; with_reducible exact H2_) | (have H2_ := (Option.bind_some _ _).symm.trans H; with_reducible exact H2_) | with_reducible exact H | (rw [hy185]; exact H) | exact H
     have Ny185 := Aside0.mk hy185
     clear hy185
     have H' := Aside0.mk H
     clear H
     obtain ⟨ad178, e178, p178, q178, hx178_0, hx178_1, hx178_2⟩ := at_B44 HR0 x8_1 Xa Xa HB
     cases e178
     obtain ⟨ad184, e184, p184, q184, hx184_0, hx184_1, hx184_2⟩ := at_B44 HR0 x8_1 Xa Xa HB
     obtain rfl : ad178 = ad184 := (by injection e184)
     go_wp2_with (first | ((with_reducible refine gate_builtin (b := .append) (xs := #[.tmp 32, .tmp 37]) rfl ?_); at_builtin; refine Kd.R_append k44 (w0 := w) w.heap.size rfl (.tmp 32) (.tmp 37) 28 44 (.agg #[(.int .i64 0), (.int .i64 0), (.int .i64 0)]) 24 rfl Try.underlying28 info44 rfl (by decide) (by omega) u7 x7_1 (⟨(rd_T44 l0 x8_1).f0, (rd_T44 l0 x8_1).f1, (rd_T44 l0 x8_1).f2⟩ : S44) [.int .i64 ((rd_T44 l0 x8_1).f0), .int .i64 ((rd_T44 l0 x8_1).f1), .int .i64 ((rd_T44 l0 x8_1).f2)] (fun _ => True) (fun _ => False) rfl rfl ?aP (fun _ hk => hk.elim) ?aF ?aO ?aB ?aS ?aL ?_; (case aP => exact k44_mkM _ _ _ (⟨(rd_T44 l0 x8_1).f0, (rd_T44 l0 x8_1).f1, (rd_T44 l0 x8_1).f2⟩ : S44)); (case aB => exact Xi); (case aF => exact (fun _ _ => trivial)); (case aO => exact (Xq HO_7)); (case aS => exact (below_size Xi)); (case aL => have := LMc12.out; omega); intro v186 w13 ho hb hg hat; rw [← Ny185.out] at ho; replace HB := Aside0.mk (hb); have HO187 := Aside0.mk (ho); clear HO_7; clear ho hb hg hat))
     go_roundg k1
     case measure => have := HK1.out; omega
     case rel => exact ⟨(y185), (wrap64 (x8_1 + 1)), Xr, H', Xk1, (Xp' HO187), ⟨Xi⟩⟩
   ·obtain rfl := Option.some.inj H
    go_wp2
    go_ret
    exact ⟨_, Xe, Xq HO_7, Xi⟩

/-! ### spec_DropHold: function 13 -/
def spec_DropHold.f (k : Nat) (a0_0 : Int) (a0_1 : Int) (l0_2 : List (S73)) (l1 : List (S44)) (a2 : Int) (a3 : Int) : Option ((List (S44)) × Int) := if (l1.length : Int) > 4096 then (some ((([] : List (S44))), 2)) else ((spec_l07Ask.f k a0_0 a0_1 l0_2 l1 a2 a3).bind fun t192 => (if t192 = 0 then ((spec_l07Own.f k l1 a2 a3).bind fun t196 => (if t196 = 0 then (some ((([] : List (S44))), 17)) else ((spec_l07Drop.f k l1 a2 a3).bind fun t200 => (some (t200, 0))))) else (some ((([] : List (S44))), t192))))
set_option maxHeartbeats 8000000 in
set_option maxRecDepth 100000 in
theorem spec_DropHold.calls (k : Nat) (a0_0 : Int) (a0_1 : Int) (A0_2 : Option Addr) (c0_2 : Nat) (l0_2 : List (S73)) (A1 : Option Addr) (c1 : Nat) (l1 : List (S44)) (a2 : Int) (a3 : Int) (r1 : List (S44)) (r2 : Int) (w : World) (hr0_2 : Kd.C k73 w A0_2 l0_2.length l0_2) (hc0_2 : l0_2.length ≤ c0_2) (hr1 : Kd.C k44 w A1 l1.length l1) (hc1 : l1.length ≤ c1) (h : spec_DropHold.f k a0_0 a0_1 l0_2 l1 a2 a3 = some (r1, r2)) :
  Calls Try.prog 13 #[.agg #[.int .i64 a0_0, .int .i64 a0_1, .slice A0_2 l0_2.length c0_2], .slice A1 l1.length c1, .int .i64 a2, .int .i64 a3] w fun e w' => ∃ v0_ : Value, e = .returned (.tuple #[v0_, .int .i64 r2]) ∧ Kd.R k44 44 w' w.heap.size (fun _ => True) v0_ r1 ∧ Below w.heap.size w w' := by
 have hu33 := Try.underlying33
 have HR0_2 := Aside0.mk hr0_2
 have HC0_2 := Aside0.mk hc0_2
 clear hr0_2 hc0_2
 have HR1 := Aside0.mk hr1
 have HC1 := Aside0.mk hc1
 clear hr1 hc1
 have HB := Aside0.mk (Below.refl w.heap.size w)
 have H : (if (l1.length : Int) > 4096 then (some ((([] : List (S44))), 2)) else ((spec_l07Ask.f k a0_0 a0_1 l0_2 l1 a2 a3).bind fun t192 => (if t192 = 0 then ((spec_l07Own.f k l1 a2 a3).bind fun t196 => (if t196 = 0 then (some ((([] : List (S44))), 17)) else ((spec_l07Drop.f k l1 a2 a3).bind fun t200 => (some (t200, 0))))) else (some ((([] : List (S44))), t192))))) = some (r1, r2) := h
 clear h
 have HC5 := Aside0.mk H
 clear H
 go_enter Try.func13, Try.ntmps13
 go_upto_if 13 with (first | ((with_reducible refine gate_dst (N := 4) rfl ?_); refine Xbox 4 #[.int .i64 a0_0, .int .i64 a0_1, .slice A0_2 l0_2.length c0_2] 33 ?_; intro gb188 hg w6 hbox hb; have BK188 := Aside0.mk (hbox); have GE188 := Xge hg Xi; replace HB := Aside0.mk (below_step Xi hb); clear hb hbox hg))
 have H := HC5.out
 clear HC5
 obtain ⟨c7, H⟩ | ⟨c7, H⟩ := Xiu H
 ·have c7b0 : decide (4096 < (l1.length : Int)) = true := decide_eq_true c7
  have c7b1 : decide (4096 < l1.length) = true := decide_eq_true (by omega)
  clear c7
  (first | rw [c7b0] | (simp only [i64_w, i32_w]; rw [c7b0]) | skip)
  obtain ⟨y189, hy189⟩ : ∃ y_ : List (S44), y_ = (([] : List (S44))) := ⟨_, rfl⟩
  replace H : (some (y189, 2)) = some (r1, r2) := by first | (rw [hy189]; with_reducible exact H) | (have H2_ := (Option.bind_some _ _).symm.trans H; rw [hy189]; with_reducible exact H2_) | (have H2_ := (Option.bind_some _ _).symm.trans H; with_reducible exact H2_) | with_reducible exact H | (rw [hy189]; exact H) | exact H
  have Ny189 := Aside0.mk hy189
  clear hy189
  simp only [Option.some.injEq, Prod.mk.injEq] at H
  obtain ⟨rfl, rfl⟩ := H
  go_wp2_with (first | ((with_reducible refine gate_dst (N := 14) rfl ?_); refine Kd.R_lit k44 _ 44 ?hg (N := 14) ?hd (xs := ([] : List (S44))) (inner := []) (ok := fun _ => True) (okp := fun _ => True) ?hr ?hp (fun _ hk => hk) trivial (Below.refl _ _) (Nat.le_refl _) (by simp) ?_; (case hd => rfl); (case hg => rfl); (case hr => first | (go_simp; done) | (go_simp; rfl)); (case hp => exact (Reps.none _ _)); intro v190 w8 ho9 hb hg_ hnew_; clear hg_ hnew_; (first | rw [← Ny189.out] at ho9 | (simp only [Int.reduceToNat] at ho9; rw [← Ny189.out] at ho9)); have HO191 := Aside0.mk (Kd.R_lower ho9 (below_size Xi)); replace BK188 := Xbb BK188 hb; replace HB := Aside0.mk (below_step Xi hb); clear hb ho9))
  go_ret2
  exact ⟨_, Xe, Xq HO191, Xi⟩
 ·have c7b0 : decide (4096 < (l1.length : Int)) = false := decide_eq_false c7
  have c7b1 : decide (4096 < l1.length) = false := decide_eq_false (by omega)
  clear c7
  (first | rw [c7b0] | (simp only [i64_w, i32_w]; rw [c7b0]) | skip)
  obtain ⟨t192, A10, H⟩ := Xbi H
  (try dsimp only at H)
  have HC11 := Aside0.mk H
  clear H
  obtain ⟨hcz12_0, hcz12_1, hcz12_2⟩ := Xc3 BK188
  go_upto_if 21 with (first | ((with_reducible refine gate_callee (f := 65) rfl ?_); refine Xgo 19 Try.func65 #[.agg #[.int .i64 a0_0, .int .i64 a0_1, .slice A0_2 l0_2.length c0_2], .slice A1 l1.length c1, .int .i64 a2, .int .i64 a3] ?_; (with_reducible refine (spec_l07Ask.calls k a0_0 a0_1 _ _ l0_2 _ _ l1 a2 a3 t192 _ ?side1 ?side2 ?side3 ?side4 A10.out).mono ?_); (case side1 => exact Xc HR0_2); (case side2 => exact HC0_2.out); (case side3 => exact Xc HR1); (case side4 => exact HC1.out); rintro e w13 ⟨rfl, hb⟩; refine ⟨_, rfl, ?_⟩; replace BK188 := Xbb BK188 hb; replace HB := Aside0.mk (below_step Xi hb); clear hb))
  have H := HC11.out
  clear HC11
  obtain ⟨c14, H⟩ | ⟨c14, H⟩ := Xiu H
  ·have c14b0 : (t192 == 0) = true := beq_iff_eq.mpr c14
   have c14b1 : (t192 != 0) = false := bne_eq_false_iff_eq.mpr c14
   clear c14
   (first | rw [c14b0] | (simp only [i64_w, i32_w]; rw [c14b0]) | skip)
   obtain ⟨t196, A15, H⟩ := Xbi H
   (try dsimp only at H)
   have HC16 := Aside0.mk H
   clear H
   go_upto_if 28 with (first | ((with_reducible refine gate_callee (f := 66) rfl ?_); refine Xgo 27 Try.func66 #[.slice A1 l1.length c1, .int .i64 a2, .int .i64 a3] ?_; (with_reducible refine (spec_l07Own.calls k _ _ l1 a2 a3 t196 _ ?side1 ?side2 A15.out).mono ?_); (case side1 => exact Xc HR1); (case side2 => exact HC1.out); rintro e w' ⟨rfl, ⟨nd, rfl⟩⟩; refine ⟨_, rfl, ?_⟩))
   have H := HC16.out
   clear HC16
   obtain ⟨c17, H⟩ | ⟨c17, H⟩ := Xiu H
   ·have c17b0 : (t196 == 0) = true := beq_iff_eq.mpr c17
    have c17b1 : (t196 != 0) = false := bne_eq_false_iff_eq.mpr c17
    clear c17
    (first | rw [c17b0] | (simp only [i64_w, i32_w]; rw [c17b0]) | skip)
    obtain ⟨y197, hy197⟩ : ∃ y_ : List (S44), y_ = (([] : List (S44))) := ⟨_, rfl⟩
    replace H : (some (y197, 17)) = some (r1, r2) := by first | (rw [hy197]; with_reducible exact H) | (have H2_ := (Option.bind_some _ _).symm.trans H; rw [hy197]; with_reducible exact H2_) | (have H2_ := (Option.bind_some _ _).symm.trans H; with_reducible exact H2_) | with_reducible exact H | (rw [hy197]; exact H) | exact H
    have Ny197 := Aside0.mk hy197
    clear hy197
    simp only [Option.some.injEq, Prod.mk.injEq] at H
    obtain ⟨rfl, rfl⟩ := H
    go_wp2_with (first | ((with_reducible refine gate_dst (N := 29) rfl ?_); refine Kd.R_lit k44 _ 44 ?hg (N := 29) ?hd (xs := ([] : List (S44))) (inner := []) (ok := fun _ => True) (okp := fun _ => True) ?hr ?hp (fun _ hk => hk) trivial (Below.refl _ _) (Nat.le_refl _) (by simp) ?_; (case hd => rfl); (case hg => rfl); (case hr => first | (go_simp; done) | (go_simp; rfl)); (case hp => exact (Reps.none _ _)); intro v198 w18 ho19 hb hg_ hnew_; clear hg_ hnew_; (first | rw [← Ny197.out] at ho19 | (simp only [Int.reduceToNat] at ho19; rw [← Ny197.out] at ho19)); have HO199 := Aside0.mk (Kd.R_lower ho19 (below_size Xi)); replace BK188 := Xbb BK188 hb; replace HB := Aside0.mk (below_step Xi hb); clear hb ho19))
    go_ret2
    exact ⟨_, Xe, Xq HO199, Xi⟩
   ·have c17b0 : (t196 == 0) = false := beq_eq_false_iff_ne.mpr c17
    have c17b1 : (t196 != 0) = true := bne_iff_ne.mpr c17
    (first | rw [c17b0] | (simp only [i64_w, i32_w]; rw [c17b0]) | skip)
    obtain ⟨t200, A20, H⟩ := Xbi H
    (try dsimp only at H)
    simp only [Option.some.injEq, Prod.mk.injEq] at H
    obtain ⟨rfl, rfl⟩ := H
    go_wp2_with (first | ((with_reducible refine gate_callee (f := 67) rfl ?_); refine Xgo 33 Try.func67 #[.slice A1 l1.length c1, .int .i64 a2, .int .i64 a3] ?_; (with_reducible refine (spec_l07Drop.calls k _ _ l1 a2 a3 t200 _ ?side1 ?side2 A20.out).mono ?_); (case side1 => exact Xc HR1); (case side2 => exact HC1.out); rintro e w21 ⟨v201, rfl, ho0, hb⟩; refine ⟨_, rfl, ?_⟩; have HO202 := Aside0.mk (Kd.R_lower ho0 (below_size Xi)); replace BK188 := Xbb BK188 hb; replace HB := Aside0.mk (below_step Xi hb); clear hb; (try clear ho0)))
    go_ret2
    exact ⟨_, Xe, Xq HO202, Xi⟩
  ·have c14b0 : (t192 == 0) = false := beq_eq_false_iff_ne.mpr c14
   have c14b1 : (t192 != 0) = true := bne_iff_ne.mpr c14
   (first | rw [c14b0] | (simp only [i64_w, i32_w]; rw [c14b0]) | skip)
   obtain ⟨y193, hy193⟩ : ∃ y_ : List (S44), y_ = (([] : List (S44))) := ⟨_, rfl⟩
   replace H : (some (y193, t192)) = some (r1, r2) := by first | (rw [hy193]; with_reducible exact H) | (have H2_ := (Option.bind_some _ _).symm.trans H; rw [hy193]; with_reducible exact H2_) | (have H2_ := (Option.bind_some _ _).symm.trans H; with_reducible exact H2_) | with_reducible exact H | (rw [hy193]; exact H) | exact H
   have Ny193 := Aside0.mk hy193
   clear hy193
   simp only [Option.some.injEq, Prod.mk.injEq] at H
   obtain ⟨rfl, rfl⟩ := H
   go_wp2_with (first | ((with_reducible refine gate_dst (N := 22) rfl ?_); refine Kd.R_lit k44 _ 44 ?hg (N := 22) ?hd (xs := ([] : List (S44))) (inner := []) (ok := fun _ => True) (okp := fun _ => True) ?hr ?hp (fun _ hk => hk) trivial (Below.refl _ _) (Nat.le_refl _) (by simp) ?_; (case hd => rfl); (case hg => rfl); (case hr => first | (go_simp; done) | (go_simp; rfl)); (case hp => exact (Reps.none _ _)); intro v194 w22 ho23 hb hg_ hnew_; clear hg_ hnew_; (first | rw [← Ny193.out] at ho23 | (simp only [Int.reduceToNat] at ho23; rw [← Ny193.out] at ho23)); have HO195 := Aside0.mk (Kd.R_lower ho23 (below_size Xi)); replace BK188 := Xbb BK188 hb; replace HB := Aside0.mk (below_step Xi hb); clear hb ho23))
   go_ret2
   exact ⟨_, Xe, Xq HO195, Xi⟩

end Go.Proofs.Ytahhgjkgfbppeaa.XA
