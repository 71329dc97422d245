/- Contracts of the program's functions: each Go function that is named below comes to what its Lean function says. Written by xprint.py (a program of this session's, over the kit's print). Conditions: each contract's own premises. -/
import Derived.Test.YtocelbmpnjnnbaaYPutHold0
import Derived.Test.YtocelbmpnjnnbaaYPutHold1
import Derived.Test.YtocelbmpnjnnbaaYPutHold2
import Derived.Test.YtocelbmpnjnnbaaYPutHold3
namespace Go.Proofs.Ytocelbmpnjnnbaa.XA
open Go.RowKit Go.Proofs.YtocelbmpnjnnbaaW.PrintWords Go.Proofs.YtocelbmpnjnnbaaW.PrintLast Go.Proofs.YtocelbmpnjnnbaaW.PrintMore XW
attribute [local go_sem] max2_int min2_int max_two min_two max_three min_three max_four min_four   -- for this text's walks alone
set_option linter.unusedVariables false
set_option linter.unusedSimpArgs false

/-! ### spec_l02OK: function 139 -/
def spec_l02OK.f (k : Nat) (a0_0 : Int) (a0_1 : Int) (l0_2 : List (S64)) : Option (Bool) := (spec_l01In.f (l0_2.length : Int) 1 40).bind fun t146 => (if t146 = true then ((spec_l01In.f a0_1 2 999999).bind fun t147 => (if t147 = true then ((spec_l02Nodes.f k a0_0 a0_1 l0_2).bind fun t148 => (if t148 = true then ((spec_l02Reach.f k a0_0 a0_1 l0_2).bind fun t149 => (if t149 = true then ((spec_l02Deep.f k a0_0 a0_1 l0_2 a0_0 6).bind fun t150 => (some (decide (t150 ≤ 6)))) else (some false))) else (some false))) else (some false))) else (some false))
set_option maxHeartbeats 8000000 in
set_option maxRecDepth 100000 in
theorem spec_l02OK.calls (k : Nat) (a0_0 : Int) (a0_1 : Int) (A0_2 : Option Addr) (c0_2 : Nat) (l0_2 : List (S64)) (r : Bool) (w : World) (hr0_2 : Kd.C k64 w A0_2 l0_2.length l0_2) (hc0_2 : l0_2.length ≤ c0_2) (h : spec_l02OK.f k a0_0 a0_1 l0_2 = some r) :
  Calls Try.prog 139 #[.agg #[.int .i64 a0_0, .int .i64 a0_1, .slice A0_2 l0_2.length c0_2]] w fun e w' => e = .returned (.bool r) ∧ Below w.heap.size w w' := by
 have hu35 := Try.underlying35
 have HR0_2 := Aside0.mk hr0_2
 have HC0_2 := Aside0.mk hc0_2
 clear hr0_2 hc0_2
 have HB := Aside0.mk (Below.refl w.heap.size w)
 have H : ((spec_l01In.f (l0_2.length : Int) 1 40).bind fun t146 => (if t146 = true then ((spec_l01In.f a0_1 2 999999).bind fun t147 => (if t147 = true then ((spec_l02Nodes.f k a0_0 a0_1 l0_2).bind fun t148 => (if t148 = true then ((spec_l02Reach.f k a0_0 a0_1 l0_2).bind fun t149 => (if t149 = true then ((spec_l02Deep.f k a0_0 a0_1 l0_2 a0_0 6).bind fun t150 => (some (decide (t150 ≤ 6)))) else (some false))) else (some false))) else (some false))) else (some false))) = some r := h
 clear h
 have HC2 := Aside0.mk H
 clear H
 go_enter Try.func139, Try.ntmps139
 go_upto_region 1 with (first | ((with_reducible refine gate_dst (N := 1) rfl ?_); refine Xbox 1 #[.int .i64 a0_0, .int .i64 a0_1, .slice A0_2 l0_2.length c0_2] 35 ?_; intro gb145 hg w3 hbox hb; have BK145 := Aside0.mk (hbox); have GE145 := Xge hg Xi; replace HB := Aside0.mk (below_step Xi hb); clear hb hbox hg))
 have H := HC2.out
 clear HC2
 obtain ⟨t146, A4, H⟩ := Xbi H
 (try dsimp only at H)
 by_cases c5 : t146 = true
 ·subst c5
  (first | rw [if_pos rfl] at H | skip)
  obtain ⟨t147, A6, H⟩ := Xbi H
  (try dsimp only at H)
  by_cases c7 : t147 = true
  ·subst c7
   (first | rw [if_pos rfl] at H | skip)
   obtain ⟨t148, A8, H⟩ := Xbi H
   (try dsimp only at H)
   by_cases c9 : t148 = true
   ·subst c9
    (first | rw [if_pos rfl] at H | skip)
    obtain ⟨t149, A10, H⟩ := Xbi H
    (try dsimp only at H)
    by_cases c11 : t149 = true
    ·subst c11
     (first | rw [if_pos rfl] at H | skip)
     obtain ⟨t150, A12, H⟩ := Xbi H
     (try dsimp only at H)
     obtain rfl := Option.some.inj H
     obtain ⟨hcz13_0, hcz13_1, hcz13_2⟩ := Xc3 BK145
     go_wp2_with (first | ((with_reducible refine gate_callee (f := 63) rfl ?_); refine Xgo 6 Try.func63 #[.int .i64 (l0_2.length : Int), .int .i64 1, .int .i64 40] ?_; (with_reducible refine (spec_l01In.calls (l0_2.length : Int) 1 40 true _ A4.out).mono ?_); rintro e w' ⟨rfl, ⟨nd, rfl⟩⟩; refine ⟨_, rfl, ?_⟩) | (go_at_call 63; (with_reducible refine (spec_l01In.calls a0_1 2 999999 true _ A6.out).mono ?_); rintro e w' ⟨rfl, ⟨nd, rfl⟩⟩) | (go_at_call 192; (with_reducible refine (spec_l02Nodes.calls k a0_0 a0_1 _ _ l0_2 true _ ?side1 ?side2 A8.out).mono ?_); (case side1 => exact Xc HR0_2); (case side2 => exact HC0_2.out); rintro e w14 ⟨rfl, hb⟩; replace BK145 := Xbb BK145 hb; replace HB := Aside0.mk (below_step Xi hb); clear hb; obtain ⟨hcz15_0, hcz15_1, hcz15_2⟩ := Xc3 BK145) | (go_at_call 193; (with_reducible refine (spec_l02Reach.calls k a0_0 a0_1 _ _ l0_2 true _ ?side1 ?side2 A10.out).mono ?_); (case side1 => exact Xc HR0_2); (case side2 => exact HC0_2.out); rintro e w16 ⟨rfl, hb⟩; replace BK145 := Xbb BK145 hb; replace HB := Aside0.mk (below_step Xi hb); clear hb; obtain ⟨hcz17_0, hcz17_1, hcz17_2⟩ := Xc3 BK145) | (go_at_call 194; (with_reducible refine (spec_l02Deep.calls k a0_0 a0_1 _ _ l0_2 a0_0 6 t150 _ ?side1 ?side2 A12.out).mono ?_); (case side1 => exact Xc HR0_2); (case side2 => exact HC0_2.out); rintro e w18 ⟨rfl, hb⟩; replace BK145 := Xbb BK145 hb; replace HB := Aside0.mk (below_step Xi hb); clear hb))
     go_ret
     exact ⟨Xe, Xi⟩
    ·replace c11 := Bool.eq_false_iff.mpr c11
     subst c11
     (first | rw [if_neg (show ¬ (false = true) by decide)] at H | skip)
     obtain rfl := Option.some.inj H
     obtain ⟨hcz19_0, hcz19_1, hcz19_2⟩ := Xc3 BK145
     go_wp2_with (first | ((with_reducible refine gate_callee (f := 63) rfl ?_); refine Xgo 6 Try.func63 #[.int .i64 (l0_2.length : Int), .int .i64 1, .int .i64 40] ?_; (with_reducible refine (spec_l01In.calls (l0_2.length : Int) 1 40 true _ A4.out).mono ?_); rintro e w' ⟨rfl, ⟨nd, rfl⟩⟩; refine ⟨_, rfl, ?_⟩) | (go_at_call 63; (with_reducible refine (spec_l01In.calls a0_1 2 999999 true _ A6.out).mono ?_); rintro e w' ⟨rfl, ⟨nd, rfl⟩⟩) | (go_at_call 192; (with_reducible refine (spec_l02Nodes.calls k a0_0 a0_1 _ _ l0_2 true _ ?side1 ?side2 A8.out).mono ?_); (case side1 => exact Xc HR0_2); (case side2 => exact HC0_2.out); rintro e w20 ⟨rfl, hb⟩; replace BK145 := Xbb BK145 hb; replace HB := Aside0.mk (below_step Xi hb); clear hb; obtain ⟨hcz21_0, hcz21_1, hcz21_2⟩ := Xc3 BK145) | (go_at_call 193; (with_reducible refine (spec_l02Reach.calls k a0_0 a0_1 _ _ l0_2 false _ ?side1 ?side2 A10.out).mono ?_); (case side1 => exact Xc HR0_2); (case side2 => exact HC0_2.out); rintro e w22 ⟨rfl, hb⟩; replace BK145 := Xbb BK145 hb; replace HB := Aside0.mk (below_step Xi hb); clear hb))
     go_ret
     exact ⟨Xe, Xi⟩
   ·replace c9 := Bool.eq_false_iff.mpr c9
    subst c9
    (first | rw [if_neg (show ¬ (false = true) by decide)] at H | skip)
    obtain rfl := Option.some.inj H
    obtain ⟨hcz23_0, hcz23_1, hcz23_2⟩ := Xc3 BK145
    go_wp2_with (first | ((with_reducible refine gate_callee (f := 63) rfl ?_); refine Xgo 6 Try.func63 #[.int .i64 (l0_2.length : Int), .int .i64 1, .int .i64 40] ?_; (with_reducible refine (spec_l01In.calls (l0_2.length : Int) 1 40 true _ A4.out).mono ?_); rintro e w' ⟨rfl, ⟨nd, rfl⟩⟩; refine ⟨_, rfl, ?_⟩) | (go_at_call 63; (with_reducible refine (spec_l01In.calls a0_1 2 999999 true _ A6.out).mono ?_); rintro e w' ⟨rfl, ⟨nd, rfl⟩⟩) | (go_at_call 192; (with_reducible refine (spec_l02Nodes.calls k a0_0 a0_1 _ _ l0_2 false _ ?side1 ?side2 A8.out).mono ?_); (case side1 => exact Xc HR0_2); (case side2 => exact HC0_2.out); rintro e w24 ⟨rfl, hb⟩; replace BK145 := Xbb BK145 hb; replace HB := Aside0.mk (below_step Xi hb); clear hb))
    go_ret
    exact ⟨Xe, Xi⟩
  ·replace c7 := Bool.eq_false_iff.mpr c7
   subst c7
   (first | rw [if_neg (show ¬ (false = true) by decide)] at H | skip)
   obtain rfl := Option.some.inj H
   obtain ⟨hcz25_0, hcz25_1, hcz25_2⟩ := Xc3 BK145
   go_wp2_with (first | ((with_reducible refine gate_callee (f := 63) rfl ?_); refine Xgo 6 Try.func63 #[.int .i64 (l0_2.length : Int), .int .i64 1, .int .i64 40] ?_; (with_reducible refine (spec_l01In.calls (l0_2.length : Int) 1 40 true _ A4.out).mono ?_); rintro e w' ⟨rfl, ⟨nd, rfl⟩⟩; refine ⟨_, rfl, ?_⟩) | (go_at_call 63; (with_reducible refine (spec_l01In.calls a0_1 2 999999 false _ A6.out).mono ?_); rintro e w' ⟨rfl, ⟨nd, rfl⟩⟩))
   go_ret
   exact ⟨Xe, Xi⟩
 ·replace c5 := Bool.eq_false_iff.mpr c5
  subst c5
  (first | rw [if_neg (show ¬ (false = true) by decide)] at H | skip)
  obtain rfl := Option.some.inj H
  obtain ⟨hcz26_0, hcz26_1, hcz26_2⟩ := Xc3 BK145
  go_wp2_with (first | ((with_reducible refine gate_callee (f := 63) rfl ?_); refine Xgo 6 Try.func63 #[.int .i64 (l0_2.length : Int), .int .i64 1, .int .i64 40] ?_; (with_reducible refine (spec_l01In.calls (l0_2.length : Int) 1 40 false _ A4.out).mono ?_); rintro e w' ⟨rfl, ⟨nd, rfl⟩⟩; refine ⟨_, rfl, ?_⟩))
  go_ret
  exact ⟨Xe, Xi⟩

/-! ### spec_l07Less: function 116 -/
def spec_l07Less.f (a0_0 : Int) (a0_1 : Int) (a0_2 : Int) (a1_0 : Int) (a1_1 : Int) (a1_2 : Int) : Option (Bool) := if a0_0 < a1_0 then (some true) else (if a0_0 = a1_0 then (some (decide (a0_1 < a1_1))) else (some false))
set_option maxHeartbeats 8000000 in
set_option maxRecDepth 100000 in
theorem spec_l07Less.calls (a0_0 : Int) (a0_1 : Int) (a0_2 : Int) (a1_0 : Int) (a1_1 : Int) (a1_2 : Int) (r : Bool) (w : World) (h : spec_l07Less.f a0_0 a0_1 a0_2 a1_0 a1_1 a1_2 = some r) :
  Calls Try.prog 116 #[.agg #[.int .i64 a0_0, .int .i64 a0_1, .int .i64 a0_2], .agg #[.int .i64 a1_0, .int .i64 a1_1, .int .i64 a1_2]] w fun e w' => e = .returned (.bool r) ∧ Below w.heap.size w w' := by
 have hu38 := Try.underlying38
 have HB := Aside0.mk (Below.refl w.heap.size w)
 have H : (if a0_0 < a1_0 then (some true) else (if a0_0 = a1_0 then (some (decide (a0_1 < a1_1))) else (some false))) = some r := h
 clear h
 have HC3 := Aside0.mk H
 clear H
 go_enter Try.func116, Try.ntmps116
 go_upto_region 1 with (first | ((with_reducible refine gate_dst (N := 2) rfl ?_); refine Xbox 2 #[.int .i64 a0_0, .int .i64 a0_1, .int .i64 a0_2] 38 ?_; intro gb151 hg w4 hbox hb; have BK151 := Aside0.mk (hbox); have GE151 := Xge hg Xi; replace HB := Aside0.mk (below_step Xi hb); clear hb hbox hg) | ((with_reducible refine gate_dst (N := 3) rfl ?_); refine Xbox 3 #[.int .i64 a1_0, .int .i64 a1_1, .int .i64 a1_2] 38 ?_; intro gb152 hg w5 hbox hb; have BK152 := Aside0.mk (hbox); have GE152 := Xge hg Xi; replace HB := Aside0.mk (below_step Xi hb); have NB151_152 := Xnb hg BK151; have NB152_151 := Xns NB151_152; replace BK151 := Xbb BK151 hb; clear hb hbox hg))
 have H := HC3.out
 clear HC3
 obtain ⟨c6b0, H⟩ | ⟨c6b0, H⟩ := Xit H
 ·obtain rfl := Option.some.inj H
  have hnb7 := NB151_152.out
  have hnc7 := NB152_151.out
  obtain ⟨hcz8_0, hcz8_1, hcz8_2⟩ := Xc3 BK151
  obtain ⟨hcz9_0, hcz9_1, hcz9_2⟩ := Xc3 BK152
  go_wp2
  go_ret
  exact ⟨Xe, Xi⟩
 ·obtain ⟨c10, H⟩ | ⟨c10, H⟩ := Xiu H
  ·have c10b0 : (a0_0 == a1_0) = true := beq_iff_eq.mpr c10
   have c10b1 : (a0_0 != a1_0) = false := bne_eq_false_iff_eq.mpr c10
   clear c10
   obtain rfl := Option.some.inj H
   have hnb11 := NB151_152.out
   have hnc11 := NB152_151.out
   obtain ⟨hcz12_0, hcz12_1, hcz12_2⟩ := Xc3 BK151
   obtain ⟨hcz13_0, hcz13_1, hcz13_2⟩ := Xc3 BK152
   go_wp2
   go_ret
   exact ⟨Xe, Xi⟩
  ·have c10b0 : (a0_0 == a1_0) = false := beq_eq_false_iff_ne.mpr c10
   have c10b1 : (a0_0 != a1_0) = true := bne_iff_ne.mpr c10
   obtain rfl := Option.some.inj H
   have hnb14 := NB151_152.out
   have hnc14 := NB152_151.out
   obtain ⟨hcz15_0, hcz15_1, hcz15_2⟩ := Xc3 BK151
   obtain ⟨hcz16_0, hcz16_1, hcz16_2⟩ := Xc3 BK152
   go_wp2
   go_ret
   exact ⟨Xe, Xi⟩

/-! ### spec_l07Mode: function 53 -/
def spec_l07Mode.f (a0 : Int) : Option (Bool) := (spec_l01In.f a0 1 5).bind fun t153 => (some t153)
set_option maxHeartbeats 8000000 in
set_option maxRecDepth 100000 in
theorem spec_l07Mode.calls (a0 : Int) (r : Bool) (w : World) (h : spec_l07Mode.f a0 = some r) :
  Calls Try.prog 53 #[.int .i64 a0] w fun e w' => e = .returned (.bool r) ∧ Drawn0 w w' := by
 have H : ((spec_l01In.f a0 1 5).bind fun t153 => (some t153)) = some r := h
 clear h
 obtain ⟨t153, A2, H⟩ := Xbi H
 (try dsimp only at H)
 obtain rfl := Option.some.inj H
 go_enter Try.func53, Try.ntmps53
 go_wp2_with (first | ((with_reducible refine gate_callee (f := 63) rfl ?_); refine Xgo 4 Try.func63 #[.int .i64 a0, .int .i64 1, .int .i64 5] ?_; (with_reducible refine (spec_l01In.calls a0 1 5 t153 _ A2.out).mono ?_); rintro e w' ⟨rfl, ⟨nd, rfl⟩⟩; refine ⟨_, rfl, ?_⟩))
 go_ret
 exact ⟨Xr, Xdr⟩

/-! ### spec_l07Hold: function 206 -/
def spec_l07Hold.f (k : Nat) (a0_0 : Int) (a0_1 : Int) (l0_2 : List (S64)) (a1_0 : Int) (a1_1 : Int) (a1_2 : Int) : Option (Bool) := (spec_l01In.f a1_0 1 999).bind fun t156 => (if t156 = true then ((spec_l07Mode.f a1_2).bind fun t157 => (if t157 = true then ((spec_l02At.f k a0_0 a0_1 l0_2 a1_1).bind fun t158 => (some (decide (t158 ≥ 0)))) else (some false))) else (some false))
set_option maxHeartbeats 8000000 in
set_option maxRecDepth 100000 in
theorem spec_l07Hold.calls (k : Nat) (a0_0 : Int) (a0_1 : Int) (A0_2 : Option Addr) (c0_2 : Nat) (l0_2 : List (S64)) (a1_0 : Int) (a1_1 : Int) (a1_2 : Int) (r : Bool) (w : World) (hr0_2 : Kd.C k64 w A0_2 l0_2.length l0_2) (hc0_2 : l0_2.length ≤ c0_2) (h : spec_l07Hold.f k a0_0 a0_1 l0_2 a1_0 a1_1 a1_2 = some r) :
  Calls Try.prog 206 #[.agg #[.int .i64 a0_0, .int .i64 a0_1, .slice A0_2 l0_2.length c0_2], .agg #[.int .i64 a1_0, .int .i64 a1_1, .int .i64 a1_2]] w fun e w' => e = .returned (.bool r) ∧ Below w.heap.size w w' := by
 have hu35 := Try.underlying35
 have hu38 := Try.underlying38
 have HR0_2 := Aside0.mk hr0_2
 have HC0_2 := Aside0.mk hc0_2
 clear hr0_2 hc0_2
 have HB := Aside0.mk (Below.refl w.heap.size w)
 have H : ((spec_l01In.f a1_0 1 999).bind fun t156 => (if t156 = true then ((spec_l07Mode.f a1_2).bind fun t157 => (if t157 = true then ((spec_l02At.f k a0_0 a0_1 l0_2 a1_1).bind fun t158 => (some (decide (t158 ≥ 0)))) else (some false))) else (some false))) = some r := h
 clear h
 have HC3 := Aside0.mk H
 clear H
 go_enter Try.func206, Try.ntmps206
 go_upto_region 1 with (first | ((with_reducible refine gate_dst (N := 2) rfl ?_); refine Xbox 2 #[.int .i64 a0_0, .int .i64 a0_1, .slice A0_2 l0_2.length c0_2] 35 ?_; intro gb154 hg w4 hbox hb; have BK154 := Aside0.mk (hbox); have GE154 := Xge hg Xi; replace HB := Aside0.mk (below_step Xi hb); clear hb hbox hg) | ((with_reducible refine gate_dst (N := 3) rfl ?_); refine Xbox 3 #[.int .i64 a1_0, .int .i64 a1_1, .int .i64 a1_2] 38 ?_; intro gb155 hg w5 hbox hb; have BK155 := Aside0.mk (hbox); have GE155 := Xge hg Xi; replace HB := Aside0.mk (below_step Xi hb); have NB154_155 := Xnb hg BK154; have NB155_154 := Xns NB154_155; replace BK154 := Xbb BK154 hb; clear hb hbox hg))
 have H := HC3.out
 clear HC3
 obtain ⟨t156, A6, H⟩ := Xbi H
 (try dsimp only at H)
 by_cases c7 : t156 = true
 ·subst c7
  (first | rw [if_pos rfl] at H | skip)
  obtain ⟨t157, A8, H⟩ := Xbi H
  (try dsimp only at H)
  by_cases c9 : t157 = true
  ·subst c9
   (first | rw [if_pos rfl] at H | skip)
   obtain ⟨t158, A10, H⟩ := Xbi H
   (try dsimp only at H)
   obtain rfl := Option.some.inj H
   have hnb11 := NB155_154.out
   have hnc11 := NB154_155.out
   obtain ⟨hcz12_0, hcz12_1, hcz12_2⟩ := Xc3 BK155
   go_wp2_with (first | ((with_reducible refine gate_callee (f := 63) rfl ?_); refine Xgo 7 Try.func63 #[.int .i64 a1_0, .int .i64 1, .int .i64 999] ?_; (with_reducible refine (spec_l01In.calls a1_0 1 999 true _ A6.out).mono ?_); rintro e w' ⟨rfl, ⟨nd, rfl⟩⟩; refine ⟨_, rfl, ?_⟩) | (go_at_call 53; (with_reducible refine (spec_l07Mode.calls a1_2 true _ A8.out).mono ?_); rintro e w' ⟨rfl, ⟨nd, rfl⟩⟩; obtain ⟨hcz13_0, hcz13_1, hcz13_2⟩ := Xc3 BK154) | (go_at_call 113; (with_reducible refine (spec_l02At.calls k a0_0 a0_1 _ _ l0_2 a1_1 t158 _ ?side1 ?side2 A10.out).mono ?_); (case side1 => exact Xc HR0_2); (case side2 => exact HC0_2.out); rintro e w14 ⟨rfl, hb⟩; replace BK154 := Xbb BK154 hb; replace BK155 := Xbb BK155 hb; replace HB := Aside0.mk (below_step Xi hb); clear hb))
   go_ret
   exact ⟨Xe, Xi⟩
  ·replace c9 := Bool.eq_false_iff.mpr c9
   subst c9
   (first | rw [if_neg (show ¬ (false = true) by decide)] at H | skip)
   obtain rfl := Option.some.inj H
   have hnb15 := NB155_154.out
   have hnc15 := NB154_155.out
   obtain ⟨hcz16_0, hcz16_1, hcz16_2⟩ := Xc3 BK155
   go_wp2_with (first | ((with_reducible refine gate_callee (f := 63) rfl ?_); refine Xgo 7 Try.func63 #[.int .i64 a1_0, .int .i64 1, .int .i64 999] ?_; (with_reducible refine (spec_l01In.calls a1_0 1 999 true _ A6.out).mono ?_); rintro e w' ⟨rfl, ⟨nd, rfl⟩⟩; refine ⟨_, rfl, ?_⟩) | (go_at_call 53; (with_reducible refine (spec_l07Mode.calls a1_2 false _ A8.out).mono ?_); rintro e w' ⟨rfl, ⟨nd, rfl⟩⟩))
   go_ret
   exact ⟨Xe, Xi⟩
 ·replace c7 := Bool.eq_false_iff.mpr c7
  subst c7
  (first | rw [if_neg (show ¬ (false = true) by decide)] at H | skip)
  obtain rfl := Option.some.inj H
  have hnb17 := NB155_154.out
  have hnc17 := NB154_155.out
  obtain ⟨hcz18_0, hcz18_1, hcz18_2⟩ := Xc3 BK155
  go_wp2_with (first | ((with_reducible refine gate_callee (f := 63) rfl ?_); refine Xgo 7 Try.func63 #[.int .i64 a1_0, .int .i64 1, .int .i64 999] ?_; (with_reducible refine (spec_l01In.calls a1_0 1 999 false _ A6.out).mono ?_); rintro e w' ⟨rfl, ⟨nd, rfl⟩⟩; refine ⟨_, rfl, ?_⟩))
  go_ret
  exact ⟨Xe, Xi⟩

end Go.Proofs.Ytocelbmpnjnnbaa.XA
