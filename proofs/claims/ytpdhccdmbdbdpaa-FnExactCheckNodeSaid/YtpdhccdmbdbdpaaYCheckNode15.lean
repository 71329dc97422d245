/- Contracts of the program's functions: each Go function that is named below comes to what its Lean function says. Written by xprint.py (a program of this session's, over the kit's print). Conditions: each contract's own premises. -/
import Derived.Test.YtpdhccdmbdbdpaaYCheckNode0
import Derived.Test.YtpdhccdmbdbdpaaYCheckNode12
import Derived.Test.YtpdhccdmbdbdpaaYCheckNode14
import Derived.Test.YtpdhccdmbdbdpaaYCheckNodeFind
namespace Go.Proofs.Ytpdhccdmbdbdpaa.XA
open Go.RowKit Go.Proofs.YtpdhccdmbdbdpaaW.PrintWords Go.Proofs.YtpdhccdmbdbdpaaW.PrintLast Go.Proofs.YtpdhccdmbdbdpaaW.PrintMore XW
attribute [local go_sem] max2_int min2_int max_two min_two max_three min_three max_four min_four   -- for this text's walks alone
set_option linter.unusedVariables false
set_option linter.unusedSimpArgs false

/-! ### slices_ContainsFunc_impl_Term_impl_Term_at_impl_areTerms_1: function 154 -/
def slices_ContainsFunc_impl_Term_impl_Term_at_impl_areTerms_1.f (k : Nat) (l0 : List (S135)) (a1_0_0 : Int) : Option (Bool) := (slices_IndexFunc_impl_Term_impl_Term_at_impl_areTerms_1.f k l0 a1_0_0).bind fun t350 => (some (decide (t350 ≥ 0)))
set_option maxHeartbeats 8000000 in
set_option maxRecDepth 100000 in
theorem slices_ContainsFunc_impl_Term_impl_Term_at_impl_areTerms_1.calls (k : Nat) (A0 : Option Addr) (c0 : Nat) (l0 : List (S135)) (g1_0_ : Nat) (a1_0_0 : Int) (r : Bool) (w : World) (hr0 : Kd.C k135 w A0 l0.length l0) (hc0 : l0.length ≤ c0) (hg1_0_ : w.heap[g1_0_]? = some (.cells #[.int .i64 a1_0_0] 3 (0, 0))) (h : slices_ContainsFunc_impl_Term_impl_Term_at_impl_areTerms_1.f k l0 a1_0_0 = some r) :
  Calls Try.prog 154 #[.slice A0 l0.length c0, .func (.func 155) #[] #[.pointer (some ⟨g1_0_, 0, none⟩)]] w fun e w' => e = .returned (.bool r) ∧ Below w.heap.size w w' := by
 have HR0 := Aside0.mk hr0
 have HC0 := Aside0.mk hc0
 clear hr0 hc0
 have BK25 := Aside0.mk hg1_0_
 clear hg1_0_
 have HB := Aside0.mk (Below.refl w.heap.size w)
 have H : ((slices_IndexFunc_impl_Term_impl_Term_at_impl_areTerms_1.f k l0 a1_0_0).bind fun t350 => (some (decide (t350 ≥ 0)))) = some r := h
 clear h
 obtain ⟨t350, A3, H⟩ := Xbi H
 (try dsimp only at H)
 obtain rfl := Option.some.inj H
 go_enter Try.func154, Try.ntmps154
 go_wp2_with (first | ((with_reducible refine gate_callee (f := 164) rfl ?_); refine Xgo 7 Try.func164 #[.slice A0 l0.length c0, .func (.func 155) #[] #[.pointer (some ⟨g1_0_, 0, none⟩)]] ?_; (with_reducible refine (slices_IndexFunc_impl_Term_impl_Term_at_impl_areTerms_1.calls k _ _ l0 g1_0_ a1_0_0 t350 _ ?side1 ?side2 ?side3 A3.out).mono ?_); (case side1 => repeat (first | exact HR0.out | (with_reducible first | refine Kd.C_alloc ?_ _ | refine Kd.C_drewN ?_ _ | refine Kd.C_drew ?_))); (case side2 => exact HC0.out); (case side3 => exact BK25.out); rintro e w4 ⟨rfl, hb⟩; refine ⟨_, rfl, ?_⟩; replace BK25 := Xbb BK25 hb; replace HB := Aside0.mk (below_step Xi hb); clear hb))
 go_ret
 exact ⟨Xe, Xi⟩

/-! ### impl_areTerms: function 136 -/
def impl_areTerms.f (k : Nat) (l0 : List (S135)) (a1 : Int) : Option (Bool) := if (l0.length : Int) ≤ 4 then ((slices_ContainsFunc_impl_Term_impl_Term_at_impl_areTerms_1.f k l0 a1).bind fun t352 => (some (!t352))) else (some false)
set_option maxHeartbeats 8000000 in
set_option maxRecDepth 100000 in
theorem impl_areTerms.calls (k : Nat) (A0 : Option Addr) (c0 : Nat) (l0 : List (S135)) (a1 : Int) (r : Bool) (w : World) (hr0 : Kd.C k135 w A0 l0.length l0) (hc0 : l0.length ≤ c0) (h : impl_areTerms.f k l0 a1 = some r) :
  Calls Try.prog 136 #[.slice A0 l0.length c0, .int .i64 a1] w fun e w' => e = .returned (.bool r) ∧ Below w.heap.size w w' := by
 have HR0 := Aside0.mk hr0
 have HC0 := Aside0.mk hc0
 clear hr0 hc0
 have HB := Aside0.mk (Below.refl w.heap.size w)
 have H : (if (l0.length : Int) ≤ 4 then ((slices_ContainsFunc_impl_Term_impl_Term_at_impl_areTerms_1.f k l0 a1).bind fun t352 => (some (!t352))) else (some false)) = some r := h
 clear h
 have HC3 := Aside0.mk H
 clear H
 go_enter Try.func136, Try.ntmps136
 go_upto_region 1 with (first | ((with_reducible refine gate_dst (N := 3) rfl ?_); refine Xbox 3 #[.int .i64 a1] 3 ?_; intro gb351 hg w4 hbox hb; have BK351 := Aside0.mk (hbox); have GE351 := Xge hg Xi; replace HB := Aside0.mk (below_step Xi hb); clear hb hbox hg))
 have H := HC3.out
 clear HC3
 obtain ⟨c5, H⟩ | ⟨c5, H⟩ := Xiu H
 ·have c5b0 : decide ((l0.length : Int) ≤ 4) = true := decide_eq_true c5
  have c5b1 : decide (l0.length ≤ 4) = true := decide_eq_true (by omega)
  clear c5
  obtain ⟨t352, A6, H⟩ := Xbi H
  (try dsimp only at H)
  obtain rfl := Option.some.inj H
  go_wp2_with (first | (go_at_call 154; (with_reducible refine (slices_ContainsFunc_impl_Term_impl_Term_at_impl_areTerms_1.calls k _ _ l0 gb351 a1 t352 _ ?side1 ?side2 ?side3 A6.out).mono ?_); (case side1 => exact Xc HR0); (case side2 => exact HC0.out); (case side3 => exact BK351.out); rintro e w7 ⟨rfl, hb⟩; replace BK351 := Xbb BK351 hb; replace HB := Aside0.mk (below_step Xi hb); clear hb))
  go_ret
  exact ⟨Xe, Xi⟩
 ·have c5b0 : decide ((l0.length : Int) ≤ 4) = false := decide_eq_false c5
  have c5b1 : decide (l0.length ≤ 4) = false := decide_eq_false (by omega)
  clear c5
  obtain rfl := Option.some.inj H
  go_wp2
  go_ret
  exact ⟨Xe, Xi⟩

/-! ### impl_RuleOK: function 115 -/
def impl_RuleOK.f (k : Nat) (a0_0 : ByteArray) (a0_1 : Bool) (l0_2 : List (S135)) (a1 : Int) : Option (Bool) := (impl_within.f a1 1 8).bind fun t354 => (if t354 = true then ((impl_NameOK.f k a0_0).bind fun t355 => (if t355 = true then (if a0_0.toList = ([116, 101, 120, 116] : List UInt8) then (some false) else (if a0_1 = true then (if (l0_2.length : Int) = 0 then ((impl_areTerms.f k l0_2 a1).bind fun t356 => (some t356)) else (some false)) else ((impl_areTerms.f k l0_2 a1).bind fun t357 => (some t357)))) else (some false))) else (some false))
set_option maxHeartbeats 8000000 in
set_option maxRecDepth 100000 in
theorem impl_RuleOK.calls (k : Nat) (a0_0 : ByteArray) (a0_1 : Bool) (A0_2 : Option Addr) (c0_2 : Nat) (l0_2 : List (S135)) (a1 : Int) (r : Bool) (w : World) (hr0_2 : Kd.C k135 w A0_2 l0_2.length l0_2) (hc0_2 : l0_2.length ≤ c0_2) (h : impl_RuleOK.f k a0_0 a0_1 l0_2 a1 = some r) :
  Calls Try.prog 115 #[.agg #[.string a0_0, .bool a0_1, .slice A0_2 l0_2.length c0_2], .int .i64 a1] w fun e w' => e = .returned (.bool r) ∧ Below w.heap.size w w' := by
 have hu95 := Try.underlying95
 have HR0_2 := Aside0.mk hr0_2
 have HC0_2 := Aside0.mk hc0_2
 clear hr0_2 hc0_2
 have HB := Aside0.mk (Below.refl w.heap.size w)
 have H : ((impl_within.f a1 1 8).bind fun t354 => (if t354 = true then ((impl_NameOK.f k a0_0).bind fun t355 => (if t355 = true then (if a0_0.toList = ([116, 101, 120, 116] : List UInt8) then (some false) else (if a0_1 = true then (if (l0_2.length : Int) = 0 then ((impl_areTerms.f k l0_2 a1).bind fun t356 => (some t356)) else (some false)) else ((impl_areTerms.f k l0_2 a1).bind fun t357 => (some t357)))) else (some false))) else (some false))) = some r := h
 clear h
 have HC3 := Aside0.mk H
 clear H
 go_enter Try.func115, Try.ntmps115
 go_upto_region 1 with (first | ((with_reducible refine gate_dst (N := 2) rfl ?_); (try (refine gate_guard (by rfl) ?_; dsimp only)); refine Xbox 2 #[.string a0_0, .bool a0_1, .slice A0_2 l0_2.length c0_2] 95 ?_; intro gb353 hg w4 hbox hb; have BK353 := Aside0.mk (hbox); have GE353 := Xge hg Xi; replace HB := Aside0.mk (below_step Xi hb); clear hb hbox hg))
 have H := HC3.out
 clear HC3
 obtain ⟨t354, A5, H⟩ := Xbi H
 (try dsimp only at H)
 by_cases c6 : t354 = true
 ·subst c6
  (first | rw [if_pos rfl] at H | skip)
  obtain ⟨t355, A7, H⟩ := Xbi H
  (try dsimp only at H)
  by_cases c8 : t355 = true
  ·subst c8
   (first | rw [if_pos rfl] at H | skip)
   obtain ⟨c9, H⟩ | ⟨c9, H⟩ := Xiu H
   ·have c9b0 : (a0_0.toList == ([116, 101, 120, 116] : List UInt8)) = true := beq_iff_eq.mpr c9
    have c9b1 : (a0_0.toList != ([116, 101, 120, 116] : List UInt8)) = false := bne_eq_false_iff_eq.mpr c9
    clear c9
    obtain rfl := Option.some.inj H
    go_wp2_with (first | ((with_reducible refine gate_callee (f := 66) rfl ?_); refine Xgo 6 Try.func66 #[.int .i64 a1, .int .i64 1, .int .i64 8] ?_; (with_reducible refine (impl_within.calls a1 1 8 true _ A5.out).mono ?_); rintro e w' ⟨rfl, ⟨nd, rfl⟩⟩; refine ⟨_, rfl, ?_⟩; obtain ⟨hcz10_0, hcz10_1, hcz10_2⟩ := Xc3 BK353) | (go_at_call 135; (with_reducible refine (impl_NameOK.calls k a0_0 true _ A7.out).mono ?_); rintro e w' ⟨rfl, ⟨nd, rfl⟩⟩))
    go_ret
    exact ⟨Xe, Xi⟩
   ·have c9b0 : (a0_0.toList == ([116, 101, 120, 116] : List UInt8)) = false := beq_eq_false_iff_ne.mpr c9
    have c9b1 : (a0_0.toList != ([116, 101, 120, 116] : List UInt8)) = true := bne_iff_ne.mpr c9
    by_cases c11 : a0_1 = true
    ·subst c11
     (first | rw [if_pos rfl] at H | skip)
     obtain ⟨c12, H⟩ | ⟨c12, H⟩ := Xiu H
     ·have c12b0 : ((l0_2.length : Int) == 0) = true := beq_iff_eq.mpr c12
      have c12b1 : ((l0_2.length : Int) != 0) = false := bne_eq_false_iff_eq.mpr c12
      clear c12
      obtain ⟨t356, A13, H⟩ := Xbi H
      (try dsimp only at H)
      obtain rfl := Option.some.inj H
      go_wp2_with (first | ((with_reducible refine gate_callee (f := 66) rfl ?_); refine Xgo 6 Try.func66 #[.int .i64 a1, .int .i64 1, .int .i64 8] ?_; (with_reducible refine (impl_within.calls a1 1 8 true _ A5.out).mono ?_); rintro e w' ⟨rfl, ⟨nd, rfl⟩⟩; refine ⟨_, rfl, ?_⟩; obtain ⟨hcz14_0, hcz14_1, hcz14_2⟩ := Xc3 BK353) | (go_at_call 135; (with_reducible refine (impl_NameOK.calls k a0_0 true _ A7.out).mono ?_); rintro e w' ⟨rfl, ⟨nd, rfl⟩⟩) | (go_at_call 136; (with_reducible refine (impl_areTerms.calls k _ _ l0_2 a1 t356 _ ?side1 ?side2 A13.out).mono ?_); (case side1 => exact Xc HR0_2); (case side2 => exact HC0_2.out); rintro e w15 ⟨rfl, hb⟩; replace BK353 := Xbb BK353 hb; replace HB := Aside0.mk (below_step Xi hb); clear hb))
      go_ret
      exact ⟨Xe, Xi⟩
     ·have c12b0 : ((l0_2.length : Int) == 0) = false := beq_eq_false_iff_ne.mpr c12
      have c12b1 : ((l0_2.length : Int) != 0) = true := bne_iff_ne.mpr c12
      have c12b2 : ¬ (l0_2 = []) := fun h_ => c12 (by rw [h_]; rfl)
      obtain rfl := Option.some.inj H
      go_wp2_with (first | ((with_reducible refine gate_callee (f := 66) rfl ?_); refine Xgo 6 Try.func66 #[.int .i64 a1, .int .i64 1, .int .i64 8] ?_; (with_reducible refine (impl_within.calls a1 1 8 true _ A5.out).mono ?_); rintro e w' ⟨rfl, ⟨nd, rfl⟩⟩; refine ⟨_, rfl, ?_⟩; obtain ⟨hcz16_0, hcz16_1, hcz16_2⟩ := Xc3 BK353) | (go_at_call 135; (with_reducible refine (impl_NameOK.calls k a0_0 true _ A7.out).mono ?_); rintro e w' ⟨rfl, ⟨nd, rfl⟩⟩))
      go_ret
      exact ⟨Xe, Xi⟩
    ·replace c11 := Bool.eq_false_iff.mpr c11
     subst c11
     (first | rw [if_neg (show ¬ (false = true) by decide)] at H | skip)
     obtain ⟨t357, A17, H⟩ := Xbi H
     (try dsimp only at H)
     obtain rfl := Option.some.inj H
     go_wp2_with (first | ((with_reducible refine gate_callee (f := 66) rfl ?_); refine Xgo 6 Try.func66 #[.int .i64 a1, .int .i64 1, .int .i64 8] ?_; (with_reducible refine (impl_within.calls a1 1 8 true _ A5.out).mono ?_); rintro e w' ⟨rfl, ⟨nd, rfl⟩⟩; refine ⟨_, rfl, ?_⟩; obtain ⟨hcz18_0, hcz18_1, hcz18_2⟩ := Xc3 BK353) | (go_at_call 135; (with_reducible refine (impl_NameOK.calls k a0_0 true _ A7.out).mono ?_); rintro e w' ⟨rfl, ⟨nd, rfl⟩⟩) | (go_at_call 136; (with_reducible refine (impl_areTerms.calls k _ _ l0_2 a1 t357 _ ?side1 ?side2 A17.out).mono ?_); (case side1 => exact Xc HR0_2); (case side2 => exact HC0_2.out); rintro e w19 ⟨rfl, hb⟩; replace BK353 := Xbb BK353 hb; replace HB := Aside0.mk (below_step Xi hb); clear hb))
     go_ret
     exact ⟨Xe, Xi⟩
  ·replace c8 := Bool.eq_false_iff.mpr c8
   subst c8
   (first | rw [if_neg (show ¬ (false = true) by decide)] at H | skip)
   obtain rfl := Option.some.inj H
   go_wp2_with (first | ((with_reducible refine gate_callee (f := 66) rfl ?_); refine Xgo 6 Try.func66 #[.int .i64 a1, .int .i64 1, .int .i64 8] ?_; (with_reducible refine (impl_within.calls a1 1 8 true _ A5.out).mono ?_); rintro e w' ⟨rfl, ⟨nd, rfl⟩⟩; refine ⟨_, rfl, ?_⟩; obtain ⟨hcz20_0, hcz20_1, hcz20_2⟩ := Xc3 BK353) | (go_at_call 135; (with_reducible refine (impl_NameOK.calls k a0_0 false _ A7.out).mono ?_); rintro e w' ⟨rfl, ⟨nd, rfl⟩⟩))
   go_ret
   exact ⟨Xe, Xi⟩
 ·replace c6 := Bool.eq_false_iff.mpr c6
  subst c6
  (first | rw [if_neg (show ¬ (false = true) by decide)] at H | skip)
  obtain rfl := Option.some.inj H
  go_wp2_with (first | ((with_reducible refine gate_callee (f := 66) rfl ?_); refine Xgo 6 Try.func66 #[.int .i64 a1, .int .i64 1, .int .i64 8] ?_; (with_reducible refine (impl_within.calls a1 1 8 false _ A5.out).mono ?_); rintro e w' ⟨rfl, ⟨nd, rfl⟩⟩; refine ⟨_, rfl, ?_⟩))
  go_ret
  exact ⟨Xe, Xi⟩

/-! ### impl_kindOf_1: function 138 -/
def impl_kindOf_1.f (a0_0 : ByteArray) (a0_1 : Bool) (l0_2 : List (S135)) (a1_0 : ByteArray) : Option (Bool) := some (a0_0.toList == a1_0.toList)
set_option maxHeartbeats 8000000 in
set_option maxRecDepth 100000 in
theorem impl_kindOf_1.calls (a0_0 : ByteArray) (a0_1 : Bool) (A0_2 : Option Addr) (c0_2 : Nat) (l0_2 : List (S135)) (g1_ : Nat) (a1_0 : ByteArray) (r : Bool) (w : World) (hr0_2 : Kd.C k135 w A0_2 l0_2.length l0_2) (hc0_2 : l0_2.length ≤ c0_2) (hg1_ : w.heap[g1_]? = some (.cells #[.string a1_0] 9 (0, 0))) (h : impl_kindOf_1.f a0_0 a0_1 l0_2 a1_0 = some r) :
  Calls Try.prog 138 #[.agg #[.string a0_0, .bool a0_1, .slice A0_2 l0_2.length c0_2], .pointer (some ⟨g1_, 0, none⟩)] w fun e w' => e = .returned (.bool r) ∧ Below w.heap.size w w' := by
 have hu95 := Try.underlying95
 have HR0_2 := Aside0.mk hr0_2
 have HC0_2 := Aside0.mk hc0_2
 clear hr0_2 hc0_2
 have BK1 := Aside0.mk hg1_
 clear hg1_
 have HB := Aside0.mk (Below.refl w.heap.size w)
 have H : (some (a0_0.toList == a1_0.toList)) = some r := h
 clear h
 obtain rfl := Option.some.inj H
 go_enter Try.func138, Try.ntmps138
 go_wp2_with (first | ((with_reducible refine gate_dst (N := 2) rfl ?_); refine Xbox 2 #[.string a0_0, .bool a0_1, .slice A0_2 l0_2.length c0_2] 95 ?_; intro gb360 hg w3 hbox hb; have BK360 := Aside0.mk (hbox); have GE360 := Xge hg Xi; replace HB := Aside0.mk (below_step Xi hb); have NB1_360 := Xnb hg BK1; have NB360_1 := Xns NB1_360; replace BK1 := Xbb BK1 hb; clear hb hbox hg; have hnb4 := NB360_1.out; have hnc4 := NB1_360.out; obtain ⟨hcz5_0, hcz5_1, hcz5_2⟩ := Xc3 BK360; have hcz6_0 := (blk_cell BK1.out 0).trans XW.i0))
 go_ret
 exact ⟨Xe, Xi⟩

/-! ### slices_IndexFunc_impl_Rule_impl_Rule_at_impl_kindOf_1: function 137 -/
def slices_IndexFunc_impl_Rule_impl_Rule_at_impl_kindOf_1.l0 : Nat → List (S95) → Int → Int → ByteArray → Option (Int)
 | 0, _, _, _, _ => none
 | k + 1, x0, x7, x8, x26000 => if x8 < x7 then (if 0 ≤ x8 then (if x8 < (x0.length : Int) then ((impl_kindOf_1.f ((rd_T95 x0 x8).f0) ((rd_T95 x0 x8).f1) ((rd_T95 x0 x8).f2) x26000).bind fun t362 => (if t362 = true then (some x8) else (slices_IndexFunc_impl_Rule_impl_Rule_at_impl_kindOf_1.l0 k x0 x7 (wrap64 (x8 + 1)) x26000))) else (none)) else (none)) else (some (-1))
def slices_IndexFunc_impl_Rule_impl_Rule_at_impl_kindOf_1.f (k : Nat) (l0 : List (S95)) (a1_0_0 : ByteArray) : Option (Int) := slices_IndexFunc_impl_Rule_impl_Rule_at_impl_kindOf_1.l0 k l0 (l0.length : Int) 0 a1_0_0
set_option maxHeartbeats 8000000 in
set_option maxRecDepth 100000 in
theorem slices_IndexFunc_impl_Rule_impl_Rule_at_impl_kindOf_1.calls (k : Nat) (A0 : Option Addr) (c0 : Nat) (l0 : List (S95)) (g1_0_ : Nat) (a1_0_0 : ByteArray) (r : Int) (w : World) (hr0 : Kd.C k95 w A0 l0.length l0) (hc0 : l0.length ≤ c0) (hg1_0_ : w.heap[g1_0_]? = some (.cells #[.string a1_0_0] 9 (0, 0))) (h : slices_IndexFunc_impl_Rule_impl_Rule_at_impl_kindOf_1.f k l0 a1_0_0 = some r) :
  Calls Try.prog 137 #[.slice A0 l0.length c0, .func (.func 138) #[] #[.pointer (some ⟨g1_0_, 0, none⟩)]] w fun e w' => e = .returned (.int .i64 r) ∧ Below w.heap.size w w' := by
 have hu95 := Try.underlying95
 have HR0 := Aside0.mk hr0
 have HC0 := Aside0.mk hc0
 clear hr0 hc0
 have BK25 := Aside0.mk hg1_0_
 clear hg1_0_
 have HB := Aside0.mk (Below.refl w.heap.size w)
 have H : (slices_IndexFunc_impl_Rule_impl_Rule_at_impl_kindOf_1.l0 k l0 (l0.length : Int) 0 a1_0_0) = some r := h
 clear h
 have H' := Aside0.mk H
 clear H
 go_enter Try.func137, Try.ntmps137
 go_wp2
 go_loopg [8] k (fun kq v8 w' => ∃ (x8_1 : Int), v8 = .int .i64 x8_1 ∧ Aside0 (slices_IndexFunc_impl_Rule_impl_Rule_at_impl_kindOf_1.l0 kq l0 (l0.length : Int) x8_1 a1_0_0 = some r) ∧ Aside0 (kq ≤ k) ∧ Aside0 (w'.heap[g1_0_]? = some (.cells #[.string a1_0_0] 9 (0, 0))) ∧ Aside0 (Below w.heap.size w w'))
 case atStart => exact ⟨(0), Xr, H', Xkr, BK25, ⟨Xi⟩⟩
 case round =>
  clear H'
  obtain ⟨x8_1, rfl, HA, HK1, BK25, HB⟩ := hrel
  cases gk with
  | zero => cases HA.out
  | succ k1 =>
   have H := HA.out
   clear HA
   simp only [slices_IndexFunc_impl_Rule_impl_Rule_at_impl_kindOf_1.l0] at H
   obtain ⟨c3b0, H⟩ | ⟨c3b0, H⟩ := Xit H
   ·obtain ⟨c4b0, H⟩ := Xid H
    obtain ⟨c5b0, H⟩ := Xid H
    obtain ⟨t362, A6, H⟩ := Xbi H
    (try dsimp only at H)
    have HC7 := Aside0.mk H
    clear H
    obtain ⟨ad361, A361_2, c361_2, e361, p361, q361, hx361_0, hx361_1, hx361_2, HC361_2, HR361_2⟩ := at_B95 HR0 x8_1 Xa Xa HB
    cases e361
    go_upto_if 16 with (first | (go_at_call 138; (with_reducible refine (impl_kindOf_1.calls ((rd_T95 l0 x8_1).f0) ((rd_T95 l0 x8_1).f1) _ _ ((rd_T95 l0 x8_1).f2) g1_0_ a1_0_0 t362 _ ?side1 ?side2 ?side3 A6.out).mono ?_); (case side1 => exact Xc HR361_2); (case side2 => exact HC361_2.out); (case side3 => exact BK25.out); rintro e w8 ⟨rfl, hb⟩; replace BK25 := Xbb BK25 hb; replace HB := Aside0.mk (below_step Xi hb); clear hb))
    have H := HC7.out
    clear HC7
    by_cases c9 : t362 = true
    ·subst c9
     (first | rw [if_pos rfl] at H | skip)
     obtain rfl := Option.some.inj H
     go_wp2
     go_ret
     exact ⟨Xe, Xi⟩
    ·replace c9 := Bool.eq_false_iff.mpr c9
     subst c9
     (first | rw [if_neg (show ¬ (false = true) by decide)] at H | skip)
     have H' := Aside0.mk H
     clear H
     go_wp2
     go_roundg k1
     case measure => have := HK1.out; omega
     case rel => exact ⟨(wrap64 (x8_1 + 1)), Xr, H', Xk1, BK25, ⟨Xi⟩⟩
   ·obtain rfl := Option.some.inj H
    go_wp2
    go_ret
    exact ⟨Xe, Xi⟩

/-! ### impl_kindOf: function 116 -/
def impl_kindOf.f (k : Nat) (l0 : List (S95)) (a1 : ByteArray) : Option (Int) := (slices_IndexFunc_impl_Rule_impl_Rule_at_impl_kindOf_1.f k l0 a1).bind fun t364 => (some (wrap64 (t364 + 1)))
set_option maxHeartbeats 8000000 in
set_option maxRecDepth 100000 in
theorem impl_kindOf.calls (k : Nat) (A0 : Option Addr) (c0 : Nat) (l0 : List (S95)) (a1 : ByteArray) (r : Int) (w : World) (hr0 : Kd.C k95 w A0 l0.length l0) (hc0 : l0.length ≤ c0) (h : impl_kindOf.f k l0 a1 = some r) :
  Calls Try.prog 116 #[.slice A0 l0.length c0, .string a1] w fun e w' => e = .returned (.int .i64 r) ∧ Below w.heap.size w w' := by
 have HR0 := Aside0.mk hr0
 have HC0 := Aside0.mk hc0
 clear hr0 hc0
 have HB := Aside0.mk (Below.refl w.heap.size w)
 have H : ((slices_IndexFunc_impl_Rule_impl_Rule_at_impl_kindOf_1.f k l0 a1).bind fun t364 => (some (wrap64 (t364 + 1)))) = some r := h
 clear h
 obtain ⟨t364, A3, H⟩ := Xbi H
 (try dsimp only at H)
 obtain rfl := Option.some.inj H
 go_enter Try.func116, Try.ntmps116
 go_wp2_with (first | ((with_reducible refine gate_dst (N := 3) rfl ?_); refine Xbox 3 #[.string a1] 9 ?_; intro gb363 hg w4 hbox hb; have BK363 := Aside0.mk (hbox); have GE363 := Xge hg Xi; replace HB := Aside0.mk (below_step Xi hb); clear hb hbox hg) | ((with_reducible refine gate_callee (f := 137) rfl ?_); refine Xgo 7 Try.func137 #[.slice A0 l0.length c0, .func (.func 138) #[] #[.pointer (some ⟨gb363, 0, none⟩)]] ?_; (with_reducible refine (slices_IndexFunc_impl_Rule_impl_Rule_at_impl_kindOf_1.calls k _ _ l0 gb363 a1 t364 _ ?side1 ?side2 ?side3 A3.out).mono ?_); (case side1 => exact Xc HR0); (case side2 => exact HC0.out); (case side3 => exact BK363.out); rintro e w5 ⟨rfl, hb⟩; refine ⟨_, rfl, ?_⟩; replace BK363 := Xbb BK363 hb; replace HB := Aside0.mk (below_step Xi hb); clear hb))
 go_ret
 exact ⟨Xe, Xi⟩

/-! ### impl_SchemaOK: function 81 -/
def impl_SchemaOK.l0 : Nat → List (S95) → List (S95) → Int → Int → Option (Bool)
 | 0, _, _, _, _ => none
 | k + 1, x0, x9, x10, x11 => if x11 < x10 then (if 0 ≤ x11 then (if x11 < (x9.length : Int) then ((impl_RuleOK.f k ((rd_T95 x9 x11).f0) ((rd_T95 x9 x11).f1) ((rd_T95 x9 x11).f2) (x0.length : Int)).bind fun t368 => (if t368 = true then ((impl_kindOf.f k x0 ((rd_T95 x9 x11).f0)).bind fun t369 => (if t369 = (wrap64 (x11 + 1)) then (impl_SchemaOK.l0 k x0 x9 x10 (wrap64 (x11 + 1))) else (some false))) else (some false))) else (none)) else (none)) else (some true)
def impl_SchemaOK.f (k : Nat) (l0 : List (S95)) : Option (Bool) := (impl_within.f (l0.length : Int) 1 8).bind fun t365 => (if t365 = true then (impl_SchemaOK.l0 k l0 l0 (l0.length : Int) 0) else (some false))
set_option maxHeartbeats 8000000 in
set_option maxRecDepth 100000 in
theorem impl_SchemaOK.calls (k : Nat) (A0 : Option Addr) (c0 : Nat) (l0 : List (S95)) (r : Bool) (w : World) (hr0 : Kd.C k95 w A0 l0.length l0) (hc0 : l0.length ≤ c0) (h : impl_SchemaOK.f k l0 = some r) :
  Calls Try.prog 81 #[.slice A0 l0.length c0] w fun e w' => e = .returned (.bool r) ∧ Below w.heap.size w w' := by
 have hu95 := Try.underlying95
 have HR0 := Aside0.mk hr0
 have HC0 := Aside0.mk hc0
 clear hr0 hc0
 have HB := Aside0.mk (Below.refl w.heap.size w)
 have H : ((impl_within.f (l0.length : Int) 1 8).bind fun t365 => (if t365 = true then (impl_SchemaOK.l0 k l0 l0 (l0.length : Int) 0) else (some false))) = some r := h
 clear h
 obtain ⟨t365, A2, H⟩ := Xbi H
 (try dsimp only at H)
 have HC3 := Aside0.mk H
 clear H
 go_enter Try.func81, Try.ntmps81
 go_upto_if 8 with (first | ((with_reducible refine gate_callee (f := 66) rfl ?_); refine Xgo 7 Try.func66 #[.int .i64 (l0.length : Int), .int .i64 1, .int .i64 8] ?_; (with_reducible refine (impl_within.calls (l0.length : Int) 1 8 t365 _ A2.out).mono ?_); rintro e w' ⟨rfl, ⟨nd, rfl⟩⟩; refine ⟨_, rfl, ?_⟩))
 have H := HC3.out
 clear HC3
 by_cases c4 : t365 = true
 ·subst c4
  (first | rw [if_pos rfl] at H | skip)
  have H' := Aside0.mk H
  clear H
  go_wp2
  go_loopg [11] k (fun kq v11 w' => ∃ (x11_1 : Int), v11 = .int .i64 x11_1 ∧ Aside0 (impl_SchemaOK.l0 kq l0 l0 (l0.length : Int) x11_1 = some r) ∧ Aside0 (kq ≤ k) ∧ Aside0 (Below w.heap.size w w'))
  case atStart => exact ⟨(0), Xr, H', Xkr, ⟨Xi⟩⟩
  case round =>
   clear H'
   (try clear c4)
   obtain ⟨x11_1, rfl, HA, HK1, HB⟩ := hrel
   cases gk with
   | zero => cases HA.out
   | succ k1 =>
    have H := HA.out
    clear HA
    simp only [impl_SchemaOK.l0] at H
    obtain ⟨c5b0, H⟩ | ⟨c5b0, H⟩ := Xit H
    ·(first | rw [c5b0] | (simp only [i64_w, i32_w]; rw [c5b0]) | skip)
     obtain ⟨c6b0, H⟩ := Xid H
     obtain ⟨c7b0, H⟩ := Xid H
     have HC8 := Aside0.mk H
     clear H
     obtain ⟨ad366, A366_2, c366_2, e366, p366, q366, hx366_0, hx366_1, hx366_2, HC366_2, HR366_2⟩ := at_B95 HR0 x11_1 Xa Xa HB
     cases e366
     go_upto_region 6 with (first | ((with_reducible refine gate_dst (N := 4) rfl ?_); refine Xbox 4 #[.string (⟨#[]⟩ : ByteArray), .bool false, .slice none 0 0] 95 ?_; intro gb367 hg w9 hbox hb; have BK367 := Aside0.mk (hbox); have GE367 := Xge hg Xi; replace HB := Aside0.mk (below_step Xi hb); clear hb hbox hg; obtain ⟨hcz10_0, hcz10_1, hcz10_2⟩ := Xc3 BK367; obtain ⟨hfz10_0, hfz10_1, hfz10_2⟩ := Xf3 BK367) | ((with_reducible refine gate_store (t := 95) (p := 4) rfl ?_); refine store_event (t := 95) (p := 4) (v := ?vo_w11) (w1 := (((w9.setCell ⟨gb367, 0, none⟩ (.string ((rd_T95 l0 x11_1).f0))).setCell ⟨gb367, 1, none⟩ (.bool ((rd_T95 l0 x11_1).f1))).setCell ⟨gb367, 2, none⟩ (.slice A366_2 ((rd_T95 l0 x11_1).f2).length c366_2))) ?hg ?ho ?hn ?hr ?_; (case ho => rfl); (case hg => rfl); (case hn => rfl); (case hr => first | (go_simp; done) | (go_simp; rfl)); intro w11 hw; have n0_ : Aside0 (w11.heap[gb367]? = some (.cells #[.string ((rd_T95 l0 x11_1).f0), .bool ((rd_T95 l0 x11_1).f1), .slice A366_2 ((rd_T95 l0 x11_1).f2).length c366_2] 95 (0, 0))) := ⟨(by rw [hw]; exact (by (with_reducible repeat (first | refine blk_drewN ?_ _ | refine blk_drew ?_ | refine blk_alloc ?_ _)); refine blk_put (cs := #[.string ((rd_T95 l0 x11_1).f0), .bool ((rd_T95 l0 x11_1).f1), .slice none 0 0]) ?_ 2 _ rfl; (with_reducible repeat (first | refine blk_drewN ?_ _ | refine blk_drew ?_ | refine blk_alloc ?_ _)); refine blk_put (cs := #[.string ((rd_T95 l0 x11_1).f0), .bool false, .slice none 0 0]) ?_ 1 _ rfl; (with_reducible repeat (first | refine blk_drewN ?_ _ | refine blk_drew ?_ | refine blk_alloc ?_ _)); refine blk_put (cs := #[.string (⟨#[]⟩ : ByteArray), .bool false, .slice none 0 0]) ?_ 0 _ rfl; (with_reducible repeat (first | refine blk_drewN ?_ _ | refine blk_drew ?_ | refine blk_alloc ?_ _)); exact BK367.out))⟩; have n1_ : Aside0 (Below w.heap.size w w11) := ⟨(by rw [hw]; exact Xi)⟩; clear hw; clear BK367; clear HB; have BK367 := n0_; have HB := n1_; clear n0_ n1_))
     have H := HC8.out
     clear HC8
     obtain ⟨t368, A12, H⟩ := Xbi H
     (try dsimp only at H)
     by_cases c13 : t368 = true
     ·subst c13
      (first | rw [if_pos rfl] at H | skip)
      obtain ⟨t369, A14, H⟩ := Xbi H
      (try dsimp only at H)
      have HC15 := Aside0.mk H
      clear H
      obtain ⟨hcz16_0, hcz16_1, hcz16_2⟩ := Xc3 BK367
      obtain ⟨hfz16_0, hfz16_1, hfz16_2⟩ := Xf3 BK367
      go_upto_if 29 with (first | ((with_reducible refine gate_callee (f := 115) rfl ?_); refine Xgo 19 Try.func115 #[.agg #[.string ((rd_T95 l0 x11_1).f0), .bool ((rd_T95 l0 x11_1).f1), .slice A366_2 ((rd_T95 l0 x11_1).f2).length c366_2], .int .i64 (l0.length : Int)] ?_; (with_reducible refine (impl_RuleOK.calls k1 ((rd_T95 l0 x11_1).f0) ((rd_T95 l0 x11_1).f1) _ _ ((rd_T95 l0 x11_1).f2) (l0.length : Int) true _ ?side1 ?side2 A12.out).mono ?_); (case side1 => exact Xc HR366_2); (case side2 => exact HC366_2.out); rintro e w17 ⟨rfl, hb⟩; refine ⟨_, rfl, ?_⟩; replace BK367 := Xbb BK367 hb; replace HB := Aside0.mk (below_step Xi hb); clear hb; obtain ⟨hcz18_0, hcz18_1, hcz18_2⟩ := Xc3 BK367; obtain ⟨hfz18_0, hfz18_1, hfz18_2⟩ := Xf3 BK367) | (go_at_call 116; (with_reducible refine (impl_kindOf.calls k1 _ _ l0 ((rd_T95 l0 x11_1).f0) t369 _ ?side1 ?side2 A14.out).mono ?_); (case side1 => exact Xc HR0); (case side2 => exact HC0.out); rintro e w19 ⟨rfl, hb⟩; replace BK367 := Xbb BK367 hb; replace HB := Aside0.mk (below_step Xi hb); clear hb))
      have H := HC15.out
      clear HC15
      obtain ⟨c20, H⟩ | ⟨c20, H⟩ := Xiu H
      ·have c20b0 : (t369 == (wrap64 (x11_1 + 1))) = true := beq_iff_eq.mpr c20
       have c20b1 : (t369 != (wrap64 (x11_1 + 1))) = false := bne_eq_false_iff_eq.mpr c20
       clear c20
       (first | rw [c20b0] | (simp only [i64_w, i32_w]; rw [c20b0]) | skip)
       have H' := Aside0.mk H
       clear H
       go_wp2
       go_roundg k1
       case measure => have := HK1.out; omega
       case rel => exact ⟨(wrap64 (x11_1 + 1)), Xr, H', Xk1, ⟨Xi⟩⟩
      ·have c20b0 : (t369 == (wrap64 (x11_1 + 1))) = false := beq_eq_false_iff_ne.mpr c20
       have c20b1 : (t369 != (wrap64 (x11_1 + 1))) = true := bne_iff_ne.mpr c20
       (first | rw [c20b0] | (simp only [i64_w, i32_w]; rw [c20b0]) | skip)
       obtain rfl := Option.some.inj H
       go_wp2
       go_ret
       exact ⟨Xe, Xi⟩
     ·replace c13 := Bool.eq_false_iff.mpr c13
      subst c13
      (first | rw [if_neg (show ¬ (false = true) by decide)] at H | skip)
      obtain rfl := Option.some.inj H
      obtain ⟨hcz21_0, hcz21_1, hcz21_2⟩ := Xc3 BK367
      obtain ⟨hfz21_0, hfz21_1, hfz21_2⟩ := Xf3 BK367
      go_wp2_with (first | ((with_reducible refine gate_callee (f := 115) rfl ?_); refine Xgo 19 Try.func115 #[.agg #[.string ((rd_T95 l0 x11_1).f0), .bool ((rd_T95 l0 x11_1).f1), .slice A366_2 ((rd_T95 l0 x11_1).f2).length c366_2], .int .i64 (l0.length : Int)] ?_; (with_reducible refine (impl_RuleOK.calls k1 ((rd_T95 l0 x11_1).f0) ((rd_T95 l0 x11_1).f1) _ _ ((rd_T95 l0 x11_1).f2) (l0.length : Int) false _ ?side1 ?side2 A12.out).mono ?_); (case side1 => exact Xc HR366_2); (case side2 => exact HC366_2.out); rintro e w22 ⟨rfl, hb⟩; refine ⟨_, rfl, ?_⟩; replace BK367 := Xbb BK367 hb; replace HB := Aside0.mk (below_step Xi hb); clear hb))
      go_ret
      exact ⟨Xe, Xi⟩
    ·(first | rw [c5b0] | (simp only [i64_w, i32_w]; rw [c5b0]) | skip)
     obtain rfl := Option.some.inj H
     go_wp2
     go_ret
     exact ⟨Xe, Xi⟩
 ·replace c4 := Bool.eq_false_iff.mpr c4
  subst c4
  (first | rw [if_neg (show ¬ (false = true) by decide)] at H | skip)
  obtain rfl := Option.some.inj H
  go_wp2
  go_ret
  exact ⟨Xe, Xi⟩

/-! ### impl_Doc_kindsOf: function 94 -/
def impl_Doc_kindsOf.l0 : Nat → List Int → List Int → Int → Int → Int → Int → List (S43) → Option (List Int)
 | 0, _, _, _, _, _, _, _ => none
 | k + 1, x5, x13, x14, x15, x1000, x1001, x1002 => if x15 < x14 then (if 0 ≤ x15 then (if x15 < (x13.length : Int) then ((impl_Doc_find.f k x1000 x1001 x1002 (rd x13 x15)).bind fun t373 => (if t373 < 0 then (none) else (if 0 ≤ t373 then (if t373 < (x1002.length : Int) then (if x5.length < 17592186044416 then (impl_Doc_kindsOf.l0 k (x5 ++ [(rd_T43 x1002 t373).f1]) x13 x14 (wrap64 (x15 + 1)) x1000 x1001 x1002) else (none)) else (none)) else (none)))) else (none)) else (none)) else (some x5)
def impl_Doc_kindsOf.f (k : Nat) (a0_0 : Int) (a0_1 : Int) (l0_2 : List (S43)) (a1 : Int) : Option (List Int) := (impl_Doc_find.f k a0_0 a0_1 l0_2 a1).bind fun t370 => (if t370 < 0 then (none) else (if 0 ≤ t370 then (if t370 < (l0_2.length : Int) then (impl_Doc_kindsOf.l0 k ([] : List Int) ((rd_T43 l0_2 t370).f4) (((rd_T43 l0_2 t370).f4).length : Int) 0 a0_0 a0_1 l0_2) else (none)) else (none)))
set_option maxHeartbeats 8000000 in
set_option maxRecDepth 100000 in
theorem impl_Doc_kindsOf.calls (k : Nat) (g0_ : Nat) (a0_0 : Int) (a0_1 : Int) (A0_2 : Option Addr) (c0_2 : Nat) (l0_2 : List (S43)) (a1 : Int) (r : List Int) (w : World) (hg0_ : w.heap[g0_]? = some (.cells #[.int .i64 a0_0, .int .i64 a0_1, .slice A0_2 l0_2.length c0_2] 29 (0, 0))) (hr0_2 : Kd.C k43 w A0_2 l0_2.length l0_2) (hc0_2 : l0_2.length ≤ c0_2) (h : impl_Doc_kindsOf.f k a0_0 a0_1 l0_2 a1 = some r) :
  Calls Try.prog 94 #[.pointer (some ⟨g0_, 0, none⟩), .int .i64 a1] w fun e w' => ∃ v0_ : Value, e = .returned (v0_) ∧ Kd.R (Kd.int .i64) 3 w' w.heap.size (fun _ => True) v0_ r ∧ Below w.heap.size w w' := by
 have HR0_2 := Aside0.mk hr0_2
 have HC0_2 := Aside0.mk hc0_2
 clear hr0_2 hc0_2
 have BK0 := Aside0.mk hg0_
 clear hg0_
 have HB := Aside0.mk (Below.refl w.heap.size w)
 have H : ((impl_Doc_find.f k a0_0 a0_1 l0_2 a1).bind fun t370 => (if t370 < 0 then (none) else (if 0 ≤ t370 then (if t370 < (l0_2.length : Int) then (impl_Doc_kindsOf.l0 k ([] : List Int) ((rd_T43 l0_2 t370).f4) (((rd_T43 l0_2 t370).f4).length : Int) 0 a0_0 a0_1 l0_2) else (none)) else (none)))) = some r := h
 clear h
 obtain ⟨t370, A3, H⟩ := Xbi H
 (try dsimp only at H)
 obtain ⟨c4b0, H⟩ | ⟨c4b0, H⟩ := Xit H
 ·exact absurd H (by simp)
 ·obtain ⟨c5, H⟩ | ⟨c5, H⟩ := Xiu H
  ·have c5b0 : decide (0 ≤ t370) = true := decide_eq_true c5
   clear c5
   obtain ⟨c6b0, H⟩ := Xid H
   have H' := Aside0.mk H
   clear H
   go_enter Try.func94, Try.ntmps94
   go_wp2_with (first | ((with_reducible refine gate_callee (f := 70) rfl ?_); refine Xgo 10 Try.func70 #[.pointer (some ⟨g0_, 0, none⟩), .int .i64 a1] ?_; (with_reducible refine (impl_Doc_find.calls k g0_ a0_0 a0_1 A0_2 c0_2 l0_2 a1 t370 _ ?side1 ?side2 ?side3 A3.out).mono ?_); (case side1 => exact (Xq' BK0)); (case side2 => repeat (first | exact HR0_2.out | (with_reducible first | refine Kd.C_alloc ?_ _ | refine Kd.C_drewN ?_ _ | refine Kd.C_drew ?_))); (case side3 => exact HC0_2.out); rintro e w7 ⟨pF, rfl, hpn, hps, hb⟩; refine ⟨_, rfl, ?_⟩; obtain ⟨adf8, hae, rfl⟩ := hps (Int.not_lt.mp (of_decide_eq_false Xa)); clear hpn; cases hae; replace BK0 := Xbb BK0 hb; replace HB := Aside0.mk (below_step Xi hb); clear hb; have p371 : 0 ≤ (t370 : Int) := of_decide_eq_true Xa; have q371 : t370 < (l0_2.length : Int) := of_decide_eq_true Xa; obtain ⟨ad371, A371_4, c371_4, e371, hx371_0, hx371_1, hx371_2, hx371_3, hx371_4, hl371_4, hi371_4⟩ := at_T43 HR0_2.out t370 p371 q371; obtain rfl : adf8 = ad371 := (by injection e371); replace hx371_0 := Xm HB hx371_0; replace hx371_1 := Xm HB hx371_1; replace hx371_2 := Xm HB hx371_2; replace hx371_3 := Xm HB hx371_3; replace hx371_4 := Xm HB hx371_4; have HR371_4 := Aside0.mk hi371_4; have HC371_4 := Aside0.mk hl371_4; clear hi371_4 hl371_4; replace p371 := eq_true p371; replace q371 := eq_true q371))
   go_loopg [5, 15] k (fun kq v5 v15 w' => ∃ (x5_1 : List Int) (x15_1 : Int), v15 = .int .i64 x15_1 ∧ Aside0 (impl_Doc_kindsOf.l0 kq x5_1 ((rd_T43 l0_2 t370).f4) (((rd_T43 l0_2 t370).f4).length : Int) x15_1 a0_0 a0_1 l0_2 = some r) ∧ Aside0 (kq ≤ k) ∧ Aside0 (Kd.R (Kd.int .i64) 3 w' w.heap.size (fun _ => True) v5 x5_1) ∧ Aside0 (w'.heap[g0_]? = some (.cells #[.int .i64 a0_0, .int .i64 a0_1, (.slice (some adf8) l0_2.length c0_2)] 29 (0, 0))) ∧ Aside0 (Below w.heap.size w w'))
   case atStart => exact ⟨(([] : List Int)), (0), Xr, H', Xkr, ⟨by first | exact Kd.R_nil _ _ _ _ _ | exact Kd.N_nil _ _ _ _ _ | exact Kd.V_nil _ _ _ _ _ | exact Kd.Q_nil _ _ _ _ _ | exact Kd.S_nil _ _ _ _ _⟩, (Xp BK0), ⟨Xi⟩⟩
   case round =>
    clear H'
    (try clear c4); (try clear c4b0); (try clear c5); (try clear c5b0); (try clear c6); (try clear c6b0); (try clear hx371_0); (try clear hx371_1); (try clear hx371_2); (try clear hx371_3); (try clear hx371_4); (try clear p371); (try clear q371)
    obtain ⟨x5_1, x15_1, rfl, HA, HK1, HO_5, BK0, HB⟩ := hrel
    cases gk with
    | zero => cases HA.out
    | succ k1 =>
     have H := HA.out
     clear HA
     simp only [impl_Doc_kindsOf.l0] at H
     obtain ⟨c9b0, H⟩ | ⟨c9b0, H⟩ := Xit H
     ·obtain ⟨c10b0, H⟩ := Xid H
      obtain ⟨c11b0, H⟩ := Xid H
      obtain ⟨t373, A12, H⟩ := Xbi H
      (try dsimp only at H)
      obtain ⟨c13b0, H⟩ | ⟨c13b0, H⟩ := Xit H
      ·exact absurd H (by simp)
      ·obtain ⟨c14b0, H⟩ := Xid H
       obtain ⟨c15b0, H⟩ := Xid H
       obtain ⟨c16, H⟩ := Xif H
       have LMc16 := Aside0.mk c16
       clear c16
       obtain ⟨y375, hy375⟩ : ∃ y_ : List Int, y_ = (x5_1 ++ [(rd_T43 l0_2 t373).f1]) := ⟨_, rfl⟩
       replace H : (impl_Doc_kindsOf.l0 k1 y375 ((rd_T43 l0_2 t370).f4) (((rd_T43 l0_2 t370).f4).length : Int) (wrap64 (x15_1 + 1)) a0_0 a0_1 l0_2) = some r := by first | (rw [hy375]; with_reducible exact H) | (have H2_ := (Option.bind_some _ _).symm.trans H; rw [hy375]; with_reducible exact H2_) | (have H2_ := (Option.bind_some _ _).symm.trans H; with_reducible exact H2_) | with_reducible exact H | (rw [hy375]; exact H) | exact H
       have Ny375 := Aside0.mk hy375
       clear hy375
       have H' := Aside0.mk H
       clear H
       have p372 : 0 ≤ (x15_1 : Int) := of_decide_eq_true Xa
       have q372 : x15_1 < (((rd_T43 l0_2 t370).f4).length : Int) := of_decide_eq_true Xa
       obtain ⟨ad372, e372, hx372_0⟩ := Kd.at_int HR371_4.out x15_1 p372 q372
       cases e372
       replace hx372_0 := Xm HB hx372_0
       replace p372 := eq_true p372
       replace q372 := eq_true q372
       go_wp2_with (first | ((with_reducible refine gate_callee (f := 70) rfl ?_); refine Xgo 22 Try.func70 #[.pointer (some ⟨g0_, 0, none⟩), .int .i64 (rd ((rd_T43 l0_2 t370).f4) x15_1)] ?_; (with_reducible refine (impl_Doc_find.calls k1 g0_ a0_0 a0_1 (some adf8) c0_2 l0_2 (rd ((rd_T43 l0_2 t370).f4) x15_1) t373 _ ?side1 ?side2 ?side3 A12.out).mono ?_); (case side1 => exact (Xq' BK0)); (case side2 => exact Xc HR0_2); (case side3 => exact HC0_2.out); rintro e w17 ⟨pF, rfl, hpn, hps, hb⟩; refine ⟨_, rfl, ?_⟩; obtain ⟨adf18, hae, rfl⟩ := hps (Int.not_lt.mp (of_decide_eq_false Xa)); clear hpn; obtain rfl : adf8 = adf18 := (by injection hae); replace HO_5 := Aside0.mk (Kd.R_below (Xq HO_5) hb); replace BK0 := Xbb BK0 hb; replace HB := Aside0.mk (below_step Xi hb); clear hb; have p374 : 0 ≤ (t373 : Int) := of_decide_eq_true Xa; have q374 : t373 < (l0_2.length : Int) := of_decide_eq_true Xa; obtain ⟨ad374, A374_4, c374_4, e374, hx374_0, hx374_1, hx374_2, hx374_3, hx374_4, hl374_4, hi374_4⟩ := at_T43 HR0_2.out t373 p374 q374; obtain rfl : adf8 = ad374 := (by injection e374); replace hx374_0 := Xm HB hx374_0; replace hx374_1 := Xm HB hx374_1; replace hx374_2 := Xm HB hx374_2; replace hx374_3 := Xm HB hx374_3; replace hx374_4 := Xm HB hx374_4; have HR374_4 := Aside0.mk hi374_4; have HC374_4 := Aside0.mk hl374_4; clear hi374_4 hl374_4; replace p374 := eq_true p374; replace q374 := eq_true q374) | ((with_reducible refine gate_builtin (b := .append) (xs := #[.tmp 19, .tmp 26]) rfl ?_); at_builtin; refine Kd.R_append (Kd.int .i64) (w0 := w) w.heap.size rfl (.tmp 19) (.tmp 26) 37 3 (.int .i64 0) 8 rfl Try.underlying37 info3 rfl (by decide) (by omega) u5 x5_1 ((rd_T43 l0_2 t373).f1) [.int .i64 ((rd_T43 l0_2 t373).f1)] (fun _ => True) (fun _ => False) rfl rfl ?aP (fun _ hk => hk.elim) ?aF ?aO ?aB ?aS ?aL ?_; (case aP => exact rfl); (case aB => exact Xi); (case aF => exact (fun _ _ => trivial)); (case aO => exact (Xq HO_5)); (case aS => exact (below_size Xi)); (case aL => have := LMc16.out; omega); intro v376 w19 ho hb hg hat; rw [← Ny375.out] at ho; replace BK0 := Aside0.mk (blk_grown (g := g0_) (o := .cells #[.int .i64 a0_0, .int .i64 a0_1, .slice (some adf8) l0_2.length c0_2] 29 (0, 0)) (Xq' BK0) hg (Kd.R_ne HO_5.out BK0.out (by decide))); replace HB := Aside0.mk (hb); have HO377 := Aside0.mk (ho); clear HO_5; clear ho hb hg hat))
       go_roundg k1
       case measure => have := HK1.out; omega
       case rel => exact ⟨(y375), (wrap64 (x15_1 + 1)), Xr, H', Xk1, (Xp' HO377), (Xp BK0), ⟨Xi⟩⟩
     ·obtain rfl := Option.some.inj H
      go_wp2
      go_ret
      exact ⟨_, Xe, Xq HO_5, Xi⟩
  ·exact absurd H (by simp)

end Go.Proofs.Ytpdhccdmbdbdpaa.XA
