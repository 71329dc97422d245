/- Contracts of the program's functions: each Go function that is named below comes to what its Lean function says. Written by xprint.py (a program of this session's, over the kit's print). Conditions: each contract's own premises. -/
import Derived.Test.YtnanfenogmpemaaYModeAt0
import Derived.Test.YtnanfenogmpemaaYModeAt3
import Derived.Test.YtnanfenogmpemaaYModeAt5
import Derived.Test.YtnanfenogmpemaaYModeAt6
import Derived.Test.YtnanfenogmpemaaYModeAt7
namespace Go.Proofs.Ytnanfenogmpemaa.XA
open Go.RowKit Go.Proofs.YtnanfenogmpemaaW.PrintWords Go.Proofs.YtnanfenogmpemaaW.PrintLast Go.Proofs.YtnanfenogmpemaaW.PrintMore XW
attribute [local go_sem] max2_int min2_int max_two min_two max_three min_three max_four min_four   -- for this text's walks alone
set_option linter.unusedVariables false
set_option linter.unusedSimpArgs false

/-! ### spec_HoldsOK: function 39 -/
def spec_HoldsOK.f (k : Nat) (a0_0 : Int) (a0_1 : Int) (l0_2 : List (S92)) (l1 : List (S55)) : Option (Bool) := if (l1.length : Int) > 4096 then (some false) else ((spec_l02OK.f k a0_0 a0_1 l0_2).bind fun t222 => (if t222 = true then ((spec_l07Holds.f k a0_0 a0_1 l0_2 l1).bind fun t223 => (some t223)) else (some false)))
set_option maxHeartbeats 8000000 in
set_option maxRecDepth 100000 in
theorem spec_HoldsOK.calls (k : Nat) (a0_0 : Int) (a0_1 : Int) (A0_2 : Option Addr) (c0_2 : Nat) (l0_2 : List (S92)) (A1 : Option Addr) (c1 : Nat) (l1 : List (S55)) (r : Bool) (w : World) (hr0_2 : Kd.C k92 w A0_2 l0_2.length l0_2) (hc0_2 : l0_2.length ≤ c0_2) (hr1 : Kd.C k55 w A1 l1.length l1) (hc1 : l1.length ≤ c1) (h : spec_HoldsOK.f k a0_0 a0_1 l0_2 l1 = some r) :
  Calls Try.prog 39 #[.agg #[.int .i64 a0_0, .int .i64 a0_1, .slice A0_2 l0_2.length c0_2], .slice A1 l1.length c1] w fun e w' => e = .returned (.bool r) ∧ Below w.heap.size w w' := by
 have hu33 := Try.underlying33
 have HR0_2 := Aside0.mk hr0_2
 have HC0_2 := Aside0.mk hc0_2
 clear hr0_2 hc0_2
 have HR1 := Aside0.mk hr1
 have HC1 := Aside0.mk hc1
 clear hr1 hc1
 have HB := Aside0.mk (Below.refl w.heap.size w)
 have H : (if (l1.length : Int) > 4096 then (some false) else ((spec_l02OK.f k a0_0 a0_1 l0_2).bind fun t222 => (if t222 = true then ((spec_l07Holds.f k a0_0 a0_1 l0_2 l1).bind fun t223 => (some t223)) else (some false)))) = some r := h
 clear h
 have HC3 := Aside0.mk H
 clear H
 go_enter Try.func39, Try.ntmps39
 go_upto_if 7 with (first | ((with_reducible refine gate_dst (N := 2) rfl ?_); refine Xbox 2 #[.int .i64 a0_0, .int .i64 a0_1, .slice A0_2 l0_2.length c0_2] 33 ?_; intro gb221 hg w4 hbox hb; have BK221 := Aside0.mk (hbox); have GE221 := Xge hg Xi; replace HB := Aside0.mk (below_step Xi hb); clear hb hbox hg))
 have H := HC3.out
 clear HC3
 obtain ⟨c5, H⟩ | ⟨c5, H⟩ := Xiu H
 ·have c5b0 : decide (4096 < (l1.length : Int)) = true := decide_eq_true c5
  have c5b1 : decide (4096 < l1.length) = true := decide_eq_true (by omega)
  clear c5
  (first | rw [c5b0] | (simp only [i64_w, i32_w]; rw [c5b0]) | skip)
  obtain rfl := Option.some.inj H
  go_wp2
  go_ret
  exact ⟨Xe, Xi⟩
 ·have c5b0 : decide (4096 < (l1.length : Int)) = false := decide_eq_false c5
  have c5b1 : decide (4096 < l1.length) = false := decide_eq_false (by omega)
  clear c5
  (first | rw [c5b0] | (simp only [i64_w, i32_w]; rw [c5b0]) | skip)
  obtain ⟨t222, A6, H⟩ := Xbi H
  (try dsimp only at H)
  by_cases c7 : t222 = true
  ·subst c7
   (first | rw [if_pos rfl] at H | skip)
   obtain ⟨t223, A8, H⟩ := Xbi H
   (try dsimp only at H)
   obtain rfl := Option.some.inj H
   obtain ⟨hcz9_0, hcz9_1, hcz9_2⟩ := Xc3 BK221
   go_wp2_with (first | ((with_reducible refine gate_callee (f := 73) rfl ?_); refine Xgo 9 Try.func73 #[.agg #[.int .i64 a0_0, .int .i64 a0_1, .slice A0_2 l0_2.length c0_2]] ?_; (with_reducible refine (spec_l02OK.calls k a0_0 a0_1 _ _ l0_2 true _ ?side1 ?side2 A6.out).mono ?_); (case side1 => exact Xc HR0_2); (case side2 => exact HC0_2.out); rintro e w10 ⟨rfl, hb⟩; refine ⟨_, rfl, ?_⟩; replace BK221 := Xbb BK221 hb; replace HB := Aside0.mk (below_step Xi hb); clear hb; obtain ⟨hcz11_0, hcz11_1, hcz11_2⟩ := Xc3 BK221) | (go_at_call 74; (with_reducible refine (spec_l07Holds.calls k a0_0 a0_1 _ _ l0_2 _ _ l1 t223 _ ?side1 ?side2 ?side3 ?side4 A8.out).mono ?_); (case side1 => exact Xc HR0_2); (case side2 => exact HC0_2.out); (case side3 => exact Xc HR1); (case side4 => exact HC1.out); rintro e w12 ⟨rfl, hb⟩; replace BK221 := Xbb BK221 hb; replace HB := Aside0.mk (below_step Xi hb); clear hb))
   go_ret
   exact ⟨Xe, Xi⟩
  ·replace c7 := Bool.eq_false_iff.mpr c7
   subst c7
   (first | rw [if_neg (show ¬ (false = true) by decide)] at H | skip)
   obtain rfl := Option.some.inj H
   obtain ⟨hcz13_0, hcz13_1, hcz13_2⟩ := Xc3 BK221
   go_wp2_with (first | ((with_reducible refine gate_callee (f := 73) rfl ?_); refine Xgo 9 Try.func73 #[.agg #[.int .i64 a0_0, .int .i64 a0_1, .slice A0_2 l0_2.length c0_2]] ?_; (with_reducible refine (spec_l02OK.calls k a0_0 a0_1 _ _ l0_2 false _ ?side1 ?side2 A6.out).mono ?_); (case side1 => exact Xc HR0_2); (case side2 => exact HC0_2.out); rintro e w14 ⟨rfl, hb⟩; refine ⟨_, rfl, ?_⟩; replace BK221 := Xbb BK221 hb; replace HB := Aside0.mk (below_step Xi hb); clear hb))
   go_ret
   exact ⟨Xe, Xi⟩

/-! ### spec_l07Ask: function 46 -/
def spec_l07Ask.f (k : Nat) (a0_0 : Int) (a0_1 : Int) (l0_2 : List (S92)) (l1 : List (S55)) (a2 : Int) (a3 : Int) : Option (Int) := if (l1.length : Int) > 4096 then (some 2) else ((spec_HoldsOK.f k a0_0 a0_1 l0_2 l1).bind fun t225 => (if t225 = true then ((spec_l01In.f a2 1 999).bind fun t226 => (if t226 = true then ((spec_l02At.f k a0_0 a0_1 l0_2 a3).bind fun t227 => (if t227 < 0 then (some 5) else (some 0))) else (some 4))) else (some 1)))
set_option maxHeartbeats 8000000 in
set_option maxRecDepth 100000 in
theorem spec_l07Ask.calls (k : Nat) (a0_0 : Int) (a0_1 : Int) (A0_2 : Option Addr) (c0_2 : Nat) (l0_2 : List (S92)) (A1 : Option Addr) (c1 : Nat) (l1 : List (S55)) (a2 : Int) (a3 : Int) (r : Int) (w : World) (hr0_2 : Kd.C k92 w A0_2 l0_2.length l0_2) (hc0_2 : l0_2.length ≤ c0_2) (hr1 : Kd.C k55 w A1 l1.length l1) (hc1 : l1.length ≤ c1) (h : spec_l07Ask.f k a0_0 a0_1 l0_2 l1 a2 a3 = some r) :
  Calls Try.prog 46 #[.agg #[.int .i64 a0_0, .int .i64 a0_1, .slice A0_2 l0_2.length c0_2], .slice A1 l1.length c1, .int .i64 a2, .int .i64 a3] w fun e w' => e = .returned (.int .i64 r) ∧ Below w.heap.size w w' := by
 have hu33 := Try.underlying33
 have HR0_2 := Aside0.mk hr0_2
 have HC0_2 := Aside0.mk hc0_2
 clear hr0_2 hc0_2
 have HR1 := Aside0.mk hr1
 have HC1 := Aside0.mk hc1
 clear hr1 hc1
 have HB := Aside0.mk (Below.refl w.heap.size w)
 have H : (if (l1.length : Int) > 4096 then (some 2) else ((spec_HoldsOK.f k a0_0 a0_1 l0_2 l1).bind fun t225 => (if t225 = true then ((spec_l01In.f a2 1 999).bind fun t226 => (if t226 = true then ((spec_l02At.f k a0_0 a0_1 l0_2 a3).bind fun t227 => (if t227 < 0 then (some 5) else (some 0))) else (some 4))) else (some 1)))) = some r := h
 clear h
 have HC5 := Aside0.mk H
 clear H
 go_enter Try.func46, Try.ntmps46
 go_upto_if 11 with (first | ((with_reducible refine gate_dst (N := 4) rfl ?_); refine Xbox 4 #[.int .i64 a0_0, .int .i64 a0_1, .slice A0_2 l0_2.length c0_2] 33 ?_; intro gb224 hg w6 hbox hb; have BK224 := Aside0.mk (hbox); have GE224 := Xge hg Xi; replace HB := Aside0.mk (below_step Xi hb); clear hb hbox hg))
 have H := HC5.out
 clear HC5
 obtain ⟨c7, H⟩ | ⟨c7, H⟩ := Xiu H
 ·have c7b0 : decide (4096 < (l1.length : Int)) = true := decide_eq_true c7
  have c7b1 : decide (4096 < l1.length) = true := decide_eq_true (by omega)
  clear c7
  (first | rw [c7b0] | (simp only [i64_w, i32_w]; rw [c7b0]) | skip)
  obtain rfl := Option.some.inj H
  go_wp2
  go_ret
  exact ⟨Xe, Xi⟩
 ·have c7b0 : decide (4096 < (l1.length : Int)) = false := decide_eq_false c7
  have c7b1 : decide (4096 < l1.length) = false := decide_eq_false (by omega)
  clear c7
  (first | rw [c7b0] | (simp only [i64_w, i32_w]; rw [c7b0]) | skip)
  obtain ⟨t225, A8, H⟩ := Xbi H
  (try dsimp only at H)
  have HC9 := Aside0.mk H
  clear H
  obtain ⟨hcz10_0, hcz10_1, hcz10_2⟩ := Xc3 BK224
  go_upto_if 15 with (first | ((with_reducible refine gate_callee (f := 39) rfl ?_); refine Xgo 14 Try.func39 #[.agg #[.int .i64 a0_0, .int .i64 a0_1, .slice A0_2 l0_2.length c0_2], .slice A1 l1.length c1] ?_; (with_reducible refine (spec_HoldsOK.calls k a0_0 a0_1 _ _ l0_2 _ _ l1 t225 _ ?side1 ?side2 ?side3 ?side4 A8.out).mono ?_); (case side1 => exact Xc HR0_2); (case side2 => exact HC0_2.out); (case side3 => exact Xc HR1); (case side4 => exact HC1.out); rintro e w11 ⟨rfl, hb⟩; refine ⟨_, rfl, ?_⟩; replace BK224 := Xbb BK224 hb; replace HB := Aside0.mk (below_step Xi hb); clear hb))
  have H := HC9.out
  clear HC9
  by_cases c12 : t225 = true
  ·subst c12
   (first | rw [if_pos rfl] at H | skip)
   obtain ⟨t226, A13, H⟩ := Xbi H
   (try dsimp only at H)
   have HC14 := Aside0.mk H
   clear H
   go_upto_if 18 with (first | ((with_reducible refine gate_callee (f := 85) rfl ?_); refine Xgo 17 Try.func85 #[.int .i64 a2, .int .i64 1, .int .i64 999] ?_; (with_reducible refine (spec_l01In.calls a2 1 999 t226 _ A13.out).mono ?_); rintro e w' ⟨rfl, ⟨nd, rfl⟩⟩; refine ⟨_, rfl, ?_⟩))
   have H := HC14.out
   clear HC14
   by_cases c15 : t226 = true
   ·subst c15
    (first | rw [if_pos rfl] at H | skip)
    obtain ⟨t227, A16, H⟩ := Xbi H
    (try dsimp only at H)
    have HC17 := Aside0.mk H
    clear H
    obtain ⟨hcz18_0, hcz18_1, hcz18_2⟩ := Xc3 BK224
    go_upto_if 22 with (first | ((with_reducible refine gate_callee (f := 86) rfl ?_); refine Xgo 21 Try.func86 #[.agg #[.int .i64 a0_0, .int .i64 a0_1, .slice A0_2 l0_2.length c0_2], .int .i64 a3] ?_; (with_reducible refine (spec_l02At.calls k a0_0 a0_1 _ _ l0_2 a3 t227 _ ?side1 ?side2 A16.out).mono ?_); (case side1 => exact Xc HR0_2); (case side2 => exact HC0_2.out); rintro e w19 ⟨rfl, hb⟩; refine ⟨_, rfl, ?_⟩; replace BK224 := Xbb BK224 hb; replace HB := Aside0.mk (below_step Xi hb); clear hb))
    have H := HC17.out
    clear HC17
    obtain ⟨c20b0, H⟩ | ⟨c20b0, H⟩ := Xit H
    ·(first | rw [c20b0] | (simp only [i64_w, i32_w]; rw [c20b0]) | skip)
     obtain rfl := Option.some.inj H
     go_wp2
     go_ret
     exact ⟨Xe, Xi⟩
    ·(first | rw [c20b0] | (simp only [i64_w, i32_w]; rw [c20b0]) | skip)
     obtain rfl := Option.some.inj H
     go_wp2
     go_ret
     exact ⟨Xe, Xi⟩
   ·replace c15 := Bool.eq_false_iff.mpr c15
    subst c15
    (first | rw [if_neg (show ¬ (false = true) by decide)] at H | skip)
    obtain rfl := Option.some.inj H
    go_wp2
    go_ret
    exact ⟨Xe, Xi⟩
  ·replace c12 := Bool.eq_false_iff.mpr c12
   subst c12
   (first | rw [if_neg (show ¬ (false = true) by decide)] at H | skip)
   obtain rfl := Option.some.inj H
   go_wp2
   go_ret
   exact ⟨Xe, Xi⟩

/-! ### spec_l02Path: function 87 -/
def spec_l02Path.l0 : Nat → List Int → Int → Int → Int → List (S92) → Option (List Int)
 | 0, _, _, _, _, _ => none
 | k + 1, x5, x6, x229000, x229001, x229002 => if x6 > 0 then ((some (([x6] : List Int) : List Int)).bind fun y232 => (if y232.length + x5.length < 17592186044416 then ((spec_l02Parent.f k x229000 x229001 x229002 x6).bind fun t238 => (spec_l02Path.l0 k (y232 ++ x5) t238 x229000 x229001 x229002)) else (none))) else (some x5)
def spec_l02Path.f (k : Nat) (a0_0 : Int) (a0_1 : Int) (l0_2 : List (S92)) (a1 : Int) : Option (List Int) := spec_l02Path.l0 k (([] : List Int)) a1 a0_0 a0_1 l0_2
set_option maxHeartbeats 8000000 in
set_option maxRecDepth 100000 in
theorem spec_l02Path.calls (k : Nat) (a0_0 : Int) (a0_1 : Int) (A0_2 : Option Addr) (c0_2 : Nat) (l0_2 : List (S92)) (a1 : Int) (r : List Int) (w : World) (hr0_2 : Kd.C k92 w A0_2 l0_2.length l0_2) (hc0_2 : l0_2.length ≤ c0_2) (h : spec_l02Path.f k a0_0 a0_1 l0_2 a1 = some r) :
  Calls Try.prog 87 #[.agg #[.int .i64 a0_0, .int .i64 a0_1, .slice A0_2 l0_2.length c0_2], .int .i64 a1] w fun e w' => ∃ v0_ : Value, e = .returned (v0_) ∧ Kd.R (Kd.int .i64) 3 w' w.heap.size (fun _ => True) v0_ r ∧ Below w.heap.size w w' := by
 have hu33 := Try.underlying33
 have HR0_2 := Aside0.mk hr0_2
 have HC0_2 := Aside0.mk hc0_2
 clear hr0_2 hc0_2
 have HB := Aside0.mk (Below.refl w.heap.size w)
 have H : (spec_l02Path.l0 k (([] : List Int)) a1 a0_0 a0_1 l0_2) = some r := h
 clear h
 obtain ⟨y229, hy229⟩ : ∃ y_ : List Int, y_ = (([] : List Int)) := ⟨_, rfl⟩
 replace H : (spec_l02Path.l0 k y229 a1 a0_0 a0_1 l0_2) = some r := by first | (rw [hy229]; with_reducible exact H) | (have H2_ := (Option.bind_some _ _).symm.trans H; rw [hy229]; with_reducible exact H2_) | (have H2_ := (Option.bind_some _ _).symm.trans H; with_reducible exact H2_) | with_reducible exact H | (rw [hy229]; exact H) | exact H
 have Ny229 := Aside0.mk hy229
 clear hy229
 have H' := Aside0.mk H
 clear H
 go_enter Try.func87, Try.ntmps87
 go_wp2_with (first | ((with_reducible refine gate_dst (N := 2) rfl ?_); refine Xbox 2 #[.int .i64 a0_0, .int .i64 a0_1, .slice A0_2 l0_2.length c0_2] 33 ?_; intro gb228 hg w3 hbox hb; have BK228 := Aside0.mk (hbox); have GE228 := Xge hg Xi; replace HB := Aside0.mk (below_step Xi hb); clear hb hbox hg) | ((with_reducible refine gate_dst (N := 7) rfl ?_); refine Kd.R_lit (Kd.int .i64) _ 3 ?hg (N := 7) ?hd (xs := ([] : List Int)) (inner := []) (ok := fun _ => True) (okp := fun _ => True) ?hr ?hp (fun _ hk => hk) trivial (Below.refl _ _) (Nat.le_refl _) (by simp) ?_; (case hd => rfl); (case hg => rfl); (case hr => first | (go_simp; done) | (go_simp; rfl)); (case hp => exact (Reps.none _ _)); intro v230 w4 ho5 hb hg_ hnew_; clear hg_ hnew_; (first | rw [← Ny229.out] at ho5 | (simp only [Int.reduceToNat] at ho5; rw [← Ny229.out] at ho5)); have HO231 := Aside0.mk (Kd.R_lower ho5 (below_size Xi)); replace BK228 := Xbb BK228 hb; replace HB := Aside0.mk (below_step Xi hb); clear hb ho5))
 go_loopg [5, 6] k (fun kq v5 v6 w' => ∃ (x5_1 : List Int) (x6_1 : Int), v6 = .int .i64 x6_1 ∧ Aside0 (spec_l02Path.l0 kq x5_1 x6_1 a0_0 a0_1 l0_2 = some r) ∧ Aside0 (kq ≤ k) ∧ Aside0 (Kd.R (Kd.int .i64) 3 w' w.heap.size (fun _ => True) v5 x5_1) ∧ Aside0 (w'.heap[gb228]? = some (.cells #[.int .i64 a0_0, .int .i64 a0_1, (.slice A0_2 l0_2.length c0_2)] 33 (0, 0))) ∧ Aside0 (Below w.heap.size w w'))
 case atStart => exact ⟨(y229), (a1), Xr, H', Xkr, (Xp' HO231), (Xp BK228), ⟨Xi⟩⟩
 case round =>
  clear H'
  obtain ⟨x5_1, x6_1, rfl, HA, HK1, HO_5, BK228, HB⟩ := hrel
  cases gk with
  | zero => cases HA.out
  | succ k1 =>
   have H := HA.out
   clear HA
   simp only [spec_l02Path.l0] at H
   obtain ⟨c6, H⟩ | ⟨c6, H⟩ := Xiu H
   ·have c6b0 : decide (0 < x6_1) = true := decide_eq_true c6
    clear c6
    obtain ⟨y232, hy232⟩ : ∃ y_ : List Int, y_ = (([x6_1] : List Int)) := ⟨_, rfl⟩
    replace H : (if y232.length + x5_1.length < 17592186044416 then ((spec_l02Parent.f k1 a0_0 a0_1 l0_2 x6_1).bind fun t238 => (spec_l02Path.l0 k1 (y232 ++ x5_1) t238 a0_0 a0_1 l0_2)) else (none)) = some r := by first | (rw [hy232]; with_reducible exact H) | (have H2_ := (Option.bind_some _ _).symm.trans H; rw [hy232]; with_reducible exact H2_) | (have H2_ := (Option.bind_some _ _).symm.trans H; with_reducible exact H2_) | with_reducible exact H | (rw [hy232]; exact H) | exact H
    have Ny232 := Aside0.mk hy232
    clear hy232
    obtain ⟨c7, H⟩ := Xif H
    have LMc7 := Aside0.mk c7
    clear c7
    obtain ⟨y235, hy235⟩ : ∃ y_ : List Int, y_ = (y232 ++ x5_1) := ⟨_, rfl⟩
    replace H : ((spec_l02Parent.f k1 a0_0 a0_1 l0_2 x6_1).bind fun t238 => (spec_l02Path.l0 k1 y235 t238 a0_0 a0_1 l0_2)) = some r := by first | (rw [hy235]; with_reducible exact H) | (have H2_ := (Option.bind_some _ _).symm.trans H; rw [hy235]; with_reducible exact H2_) | (have H2_ := (Option.bind_some _ _).symm.trans H; with_reducible exact H2_) | with_reducible exact H | (rw [hy235]; exact H) | exact H
    have Ny235 := Aside0.mk hy235
    clear hy235
    obtain ⟨t238, A8, H⟩ := Xbi H
    (try dsimp only at H)
    have H' := Aside0.mk H
    clear H
    go_wp2_with (first | ((with_reducible refine gate_dst (N := 15) rfl ?_); refine Kd.R_lit (Kd.int .i64) _ 3 ?hg (N := 15) ?hd (xs := ([x6_1] : List Int)) (inner := [.int .i64 x6_1]) (ok := fun _ => True) (okp := fun _ => True) ?hr ?hp (fun _ hk => hk) trivial (Below.refl _ _) (Nat.le_refl _) (by simp) ?_; (case hd => rfl); (case hg => rfl); (case hr => first | (go_simp; done) | (go_simp; rfl)); (case hp => exact (Reps.one (show Kd.M (Kd.int .i64) _ _ _ x6_1 [.int .i64 x6_1] from rfl) (Reps.none _ _))); intro v233 w9 ho10 hb hg_ hnew_; clear hg_ hnew_; (first | rw [← Ny232.out] at ho10 | (simp only [Int.reduceToNat] at ho10; rw [← Ny232.out] at ho10)); have HO234 := Aside0.mk (Kd.R_lower (Kd.R_new' ho10 (Kd.R_lt (Xq HO_5))) (below_size Xi)); replace HO_5 := Aside0.mk (Kd.R_elder' (Xq HO_5) (Kd.R_base ho10) hb); replace BK228 := Xbb BK228 hb; replace HB := Aside0.mk (below_step Xi hb); clear hb ho10; obtain ⟨Ao12, co12, eo12⟩ := Kd.R_slice HO_5.out; subst eo12) | ((with_reducible refine gate_builtin (b := .append) (xs := #[.tmp 15, .tmp 16]) rfl ?_); at_builtin; refine Kd.R_append_rows (Kd.int .i64) (w0 := w) w.heap.size rfl (.tmp 15) (.tmp 16) 65 3 (.int .i64 0) 8 rfl Try.underlying65 info3 rfl (by decide) (by omega) v233 y232 x5_1 _ _ _ (fun k_ => some k_ ≠ (.slice Ao12 x5_1.length co12 : Value).ownBlock) (fun _ => False) rfl rfl ?aO ?aR (fun _ _ h => h) (fun _ h => h.elim) ?aF ?aB ?aS ?aL ?_; (case aR => repeat (first | exact (Kd.R_reads' HO_5.out).2.2 | (with_reducible first | refine Kd.C_alloc ?_ _ | refine Kd.C_drewN ?_ _ | refine Kd.C_drew ?_))); (case aB => exact Xi); (case aF => exact (fun k_ hk => Kd.fresh' (Kd.R_lt (Xq HO_5)) k_ hk)); (case aO => exact (by (with_reducible repeat (first | apply Kd.R_alloc | apply Kd.R_drewN | apply Kd.R_drew)); exact Kd.R_mono HO234.out (fun _ hk => hk.2))); (case aS => exact (below_size Xi)); (case aL => have := LMc7.out; omega); intro v236 w11 ho hb hg hat; rw [← Ny235.out] at ho; replace HO_5 := Aside0.mk (Kd.R_after (ok := (fun _ => True)) (Xq HO_5) hg hat); replace BK228 := Aside0.mk (blk_grown (g := gb228) (o := .cells #[.int .i64 a0_0, .int .i64 a0_1, .slice A0_2 l0_2.length c0_2] 33 (0, 0)) (Xq' BK228) hg (Kd.R_ne HO234.out BK228.out (by decide))); replace HB := Aside0.mk (hb); have HO237 := Aside0.mk (ho); clear HO234; clear ho hb hg hat; obtain ⟨hcz13_0, hcz13_1, hcz13_2⟩ := Xc3 BK228) | ((with_reducible refine gate_callee (f := 126) rfl ?_); refine Xgo 13 Try.func126 #[.agg #[.int .i64 a0_0, .int .i64 a0_1, .slice A0_2 l0_2.length c0_2], .int .i64 x6_1] ?_; (with_reducible refine (spec_l02Parent.calls k1 a0_0 a0_1 _ _ l0_2 x6_1 t238 _ ?side1 ?side2 A8.out).mono ?_); (case side1 => exact Xc HR0_2); (case side2 => exact HC0_2.out); rintro e w14 ⟨rfl, hb⟩; refine ⟨_, rfl, ?_⟩; replace HO_5 := Aside0.mk (Kd.R_below (Xq HO_5) hb); replace HO237 := Aside0.mk (Kd.R_below (Xq HO237) hb); replace BK228 := Xbb BK228 hb; replace HB := Aside0.mk (below_step Xi hb); clear hb))
    go_roundg k1
    case measure => have := HK1.out; omega
    case rel => exact ⟨(y235), (t238), Xr, H', Xk1, ⟨by (with_reducible repeat (first | apply Kd.R_alloc | apply Kd.R_drewN | apply Kd.R_drew)); exact Kd.R_mono HO237.out (fun _ hk => trivial)⟩, (Xp BK228), ⟨Xi⟩⟩
   ·have c6b0 : decide (0 < x6_1) = false := decide_eq_false c6
    clear c6
    obtain rfl := Option.some.inj H
    go_wp2
    go_ret
    exact ⟨_, Xe, Xq HO_5, Xi⟩

/-! ### spec_l07Join: function 88 -/
def spec_l07Join.f : Nat → Int → Int → Option (Int)
 | 0, _, _ => none
 | k + 1, a0, a1 => if a0 > a1 then ((spec_l07Join.f k a1 a0).bind fun t239 => (some t239)) else (if a0 = 2 then (if a1 = 3 then (some 4) else (some a1)) else (some a1))
set_option maxHeartbeats 8000000 in
set_option maxRecDepth 100000 in
theorem spec_l07Join.calls (k : Nat) : ∀ (a0 : Int) (a1 : Int) (r : Int) (w : World) (h : spec_l07Join.f k a0 a1 = some r),
  Calls Try.prog 88 #[.int .i64 a0, .int .i64 a1] w fun e w' => e = .returned (.int .i64 r) ∧ Below w.heap.size w w' := by
 induction k using Nat.strongRecOn with
 | _ k ih =>
 intro a0 a1 r w h
 cases k with
 | zero => exact absurd h (by simp [spec_l07Join.f])
 | succ k =>
 simp only [spec_l07Join.f] at h
 have HB := Aside0.mk (Below.refl w.heap.size w)
 have H : (if a0 > a1 then ((spec_l07Join.f k a1 a0).bind fun t239 => (some t239)) else (if a0 = 2 then (if a1 = 3 then (some 4) else (some a1)) else (some a1))) = some r := h
 clear h
 obtain ⟨c3, H⟩ | ⟨c3, H⟩ := Xiu H
 ·have c3b0 : decide (a1 < a0) = true := decide_eq_true c3
  clear c3
  obtain ⟨t239, A4, H⟩ := Xbi H
  (try dsimp only at H)
  obtain rfl := Option.some.inj H
  go_enter Try.func88, Try.ntmps88
  go_wp2_with (first | ((with_reducible refine gate_callee (f := 88) rfl ?_); refine Xgo 10 Try.func88 #[.int .i64 a1, .int .i64 a0] ?_; (with_reducible refine (ih k (by omega) a1 a0 t239 _ A4.out).mono ?_); rintro e w5 ⟨rfl, hb⟩; refine ⟨_, rfl, ?_⟩; replace HB := Aside0.mk (below_step Xi hb); clear hb))
  go_ret
  exact ⟨Xe, Xi⟩
 ·have c3b0 : decide (a1 < a0) = false := decide_eq_false c3
  clear c3
  obtain ⟨c6, H⟩ | ⟨c6, H⟩ := Xiu H
  ·have c6b0 : (a0 == 2) = true := beq_iff_eq.mpr c6
   have c6b1 : (a0 != 2) = false := bne_eq_false_iff_eq.mpr c6
   clear c6
   obtain ⟨c7, H⟩ | ⟨c7, H⟩ := Xiu H
   ·have c7b0 : (a1 == 3) = true := beq_iff_eq.mpr c7
    have c7b1 : (a1 != 3) = false := bne_eq_false_iff_eq.mpr c7
    clear c7
    obtain rfl := Option.some.inj H
    go_enter Try.func88, Try.ntmps88
    go_wp2
    go_ret
    exact ⟨Xe, Xi⟩
   ·have c7b0 : (a1 == 3) = false := beq_eq_false_iff_ne.mpr c7
    have c7b1 : (a1 != 3) = true := bne_iff_ne.mpr c7
    obtain rfl := Option.some.inj H
    go_enter Try.func88, Try.ntmps88
    go_wp2
    go_ret
    exact ⟨Xe, Xi⟩
  ·have c6b0 : (a0 == 2) = false := beq_eq_false_iff_ne.mpr c6
   have c6b1 : (a0 != 2) = true := bne_iff_ne.mpr c6
   obtain rfl := Option.some.inj H
   go_enter Try.func88, Try.ntmps88
   go_wp2
   go_ret
   exact ⟨Xe, Xi⟩

/-! ### spec_l07Intent: function 92 -/
def spec_l07Intent.f (a0 : Int) : Option (Int) := if a0 = 0 then (some 0) else (if a0 = 1 then (some 1) else (if a0 = 3 then (some 1) else (some 2)))
set_option maxHeartbeats 8000000 in
set_option maxRecDepth 100000 in
theorem spec_l07Intent.calls (a0 : Int) (r : Int) (w : World) (h : spec_l07Intent.f a0 = some r) :
  Calls Try.prog 92 #[.int .i64 a0] w fun e w' => e = .returned (.int .i64 r) ∧ Drawn0 w w' := by
 have H : (if a0 = 0 then (some 0) else (if a0 = 1 then (some 1) else (if a0 = 3 then (some 1) else (some 2)))) = some r := h
 clear h
 obtain ⟨c2, H⟩ | ⟨c2, H⟩ := Xiu H
 ·have c2b0 : (a0 == 0) = true := beq_iff_eq.mpr c2
  have c2b1 : (a0 != 0) = false := bne_eq_false_iff_eq.mpr c2
  clear c2
  obtain rfl := Option.some.inj H
  go_enter Try.func92, Try.ntmps92
  go_wp2
  go_ret
  exact ⟨Xr, Xdr⟩
 ·have c2b0 : (a0 == 0) = false := beq_eq_false_iff_ne.mpr c2
  have c2b1 : (a0 != 0) = true := bne_iff_ne.mpr c2
  obtain ⟨c3, H⟩ | ⟨c3, H⟩ := Xiu H
  ·have c3b0 : (a0 == 1) = true := beq_iff_eq.mpr c3
   have c3b1 : (a0 != 1) = false := bne_eq_false_iff_eq.mpr c3
   clear c3
   obtain rfl := Option.some.inj H
   go_enter Try.func92, Try.ntmps92
   go_wp2
   go_ret
   exact ⟨Xr, Xdr⟩
  ·have c3b0 : (a0 == 1) = false := beq_eq_false_iff_ne.mpr c3
   have c3b1 : (a0 != 1) = true := bne_iff_ne.mpr c3
   obtain ⟨c4, H⟩ | ⟨c4, H⟩ := Xiu H
   ·have c4b0 : (a0 == 3) = true := beq_iff_eq.mpr c4
    have c4b1 : (a0 != 3) = false := bne_eq_false_iff_eq.mpr c4
    clear c4
    obtain rfl := Option.some.inj H
    go_enter Try.func92, Try.ntmps92
    go_wp2
    go_ret
    exact ⟨Xr, Xdr⟩
   ·have c4b0 : (a0 == 3) = false := beq_eq_false_iff_ne.mpr c4
    have c4b1 : (a0 != 3) = true := bne_iff_ne.mpr c4
    obtain rfl := Option.some.inj H
    go_enter Try.func92, Try.ntmps92
    go_wp2
    go_ret
    exact ⟨Xr, Xdr⟩

/-! ### spec_l07At: function 51 -/
def spec_l07At.l0 : Nat → List (S55) → Int → Int → Int → Int → Int → Int → List (S92) → Option (Int)
 | 0, _, _, _, _, _, _, _, _ => none
 | k + 1, x1, x2, x3, x9, x10, x241000, x241001, x241002 => if x10 < (x1.length : Int) then (if 0 ≤ x10 then (if ((rd_T55 x1 x10).f0) = x2 then (if ((rd_T55 x1 x10).f1) = x3 then ((spec_l07Join.f k x9 ((rd_T55 x1 x10).f2)).bind fun t243 => (spec_l07At.l0 k x1 x2 x3 t243 (wrap64 (x10 + 1)) x241000 x241001 x241002)) else ((spec_l02Path.f k x241000 x241001 x241002 ((rd_T55 x1 x10).f1)).bind fun t244 => ((spec_l02Has.f k t244 x3).bind fun t247 => (if t247 = true then ((spec_l07Intent.f ((rd_T55 x1 x10).f2)).bind fun t248 => ((spec_l07Join.f k x9 t248).bind fun t249 => (spec_l07At.l0 k x1 x2 x3 t249 (wrap64 (x10 + 1)) x241000 x241001 x241002))) else (spec_l07At.l0 k x1 x2 x3 x9 (wrap64 (x10 + 1)) x241000 x241001 x241002))))) else (spec_l07At.l0 k x1 x2 x3 x9 (wrap64 (x10 + 1)) x241000 x241001 x241002)) else (none)) else (some x9)
def spec_l07At.f (k : Nat) (a0_0 : Int) (a0_1 : Int) (l0_2 : List (S92)) (l1 : List (S55)) (a2 : Int) (a3 : Int) : Option (Int) := spec_l07At.l0 k l1 a2 a3 0 0 a0_0 a0_1 l0_2
set_option maxHeartbeats 8000000 in
set_option maxRecDepth 100000 in
theorem spec_l07At.calls (k : Nat) (a0_0 : Int) (a0_1 : Int) (A0_2 : Option Addr) (c0_2 : Nat) (l0_2 : List (S92)) (A1 : Option Addr) (c1 : Nat) (l1 : List (S55)) (a2 : Int) (a3 : Int) (r : Int) (w : World) (hr0_2 : Kd.C k92 w A0_2 l0_2.length l0_2) (hc0_2 : l0_2.length ≤ c0_2) (hr1 : Kd.C k55 w A1 l1.length l1) (hc1 : l1.length ≤ c1) (h : spec_l07At.f k a0_0 a0_1 l0_2 l1 a2 a3 = some r) :
  Calls Try.prog 51 #[.agg #[.int .i64 a0_0, .int .i64 a0_1, .slice A0_2 l0_2.length c0_2], .slice A1 l1.length c1, .int .i64 a2, .int .i64 a3] w fun e w' => e = .returned (.int .i64 r) ∧ Below w.heap.size w w' := by
 have hu33 := Try.underlying33
 have hu55 := Try.underlying55
 have HR0_2 := Aside0.mk hr0_2
 have HC0_2 := Aside0.mk hc0_2
 clear hr0_2 hc0_2
 have HR1 := Aside0.mk hr1
 have HC1 := Aside0.mk hc1
 clear hr1 hc1
 have HB := Aside0.mk (Below.refl w.heap.size w)
 have H : (spec_l07At.l0 k l1 a2 a3 0 0 a0_0 a0_1 l0_2) = some r := h
 clear h
 have H' := Aside0.mk H
 clear H
 go_enter Try.func51, Try.ntmps51
 go_wp2_with (first | ((with_reducible refine gate_dst (N := 4) rfl ?_); refine Xbox 4 #[.int .i64 a0_0, .int .i64 a0_1, .slice A0_2 l0_2.length c0_2] 33 ?_; intro gb240 hg w5 hbox hb; have BK240 := Aside0.mk (hbox); have GE240 := Xge hg Xi; replace HB := Aside0.mk (below_step Xi hb); clear hb hbox hg))
 go_loopg [9, 10] k (fun kq v9 v10 w' => ∃ (x9_1 : Int) (x10_1 : Int), v9 = .int .i64 x9_1 ∧ v10 = .int .i64 x10_1 ∧ Aside0 (spec_l07At.l0 kq l1 a2 a3 x9_1 x10_1 a0_0 a0_1 l0_2 = some r) ∧ Aside0 (kq ≤ k) ∧ Aside0 (w'.heap[gb240]? = some (.cells #[.int .i64 a0_0, .int .i64 a0_1, (.slice A0_2 l0_2.length c0_2)] 33 (0, 0))) ∧ Aside0 (Below w.heap.size w w'))
 case atStart => exact ⟨(0), (0), Xr, Xr, H', Xkr, BK240, ⟨Xi⟩⟩
 case round =>
  clear H'
  (try clear c1)
  obtain ⟨x9_1, x10_1, rfl, rfl, HA, HK1, BK240, HB⟩ := hrel
  cases gk with
  | zero => cases HA.out
  | succ k1 =>
   have H := HA.out
   clear HA
   simp only [spec_l07At.l0] at H
   obtain ⟨c6b0, H⟩ | ⟨c6b0, H⟩ := Xit H
   ·obtain ⟨c7b0, H⟩ := Xid H
    have HC8 := Aside0.mk H
    clear H
    obtain ⟨ad241, e241, p241, q241, hx241_0, hx241_1, hx241_2⟩ := at_B55 HR1 x10_1 Xa Xa HB
    cases e241
    go_upto_if 25 with (first | ((with_reducible refine gate_dst (N := 11) rfl ?_); refine Xbox 11 #[.int .i64 0, .int .i64 0, .int .i64 0] 55 ?_; intro gb242 hg w9 hbox hb; have BK242 := Aside0.mk (hbox); have GE242 := Xge hg Xi; replace HB := Aside0.mk (below_step Xi hb); have NB240_242 := Xnb hg BK240; have NB242_240 := Xns NB240_242; replace BK240 := Xbb BK240 hb; clear hb hbox hg; have hnb10 := NB242_240.out; have hnc10 := NB240_242.out; obtain ⟨hcz11_0, hcz11_1, hcz11_2⟩ := Xc3 BK242; obtain ⟨hfz11_0, hfz11_1, hfz11_2⟩ := Xf3 BK242) | ((with_reducible refine gate_store (t := 55) (p := 11) rfl ?_); refine store_event (t := 55) (p := 11) (v := ?vo_w12) (w1 := (((w9.setCell ⟨gb242, 0, none⟩ (.int .i64 ((rd_T55 l1 x10_1).f0))).setCell ⟨gb242, 1, none⟩ (.int .i64 ((rd_T55 l1 x10_1).f1))).setCell ⟨gb242, 2, none⟩ (.int .i64 ((rd_T55 l1 x10_1).f2)))) ?hg ?ho ?hn ?hr ?_; (case ho => rfl); (case hg => rfl); (case hn => rfl); (case hr => first | (go_simp; done) | (go_simp; rfl)); intro w12 hw; have n0_ : Aside0 (w12.heap[gb240]? = some (.cells #[.int .i64 a0_0, .int .i64 a0_1, .slice A0_2 l0_2.length c0_2] 33 (0, 0))) := ⟨(by rw [hw]; exact (by (with_reducible repeat (first | refine blk_drewN ?_ _ | refine blk_drew ?_ | refine blk_alloc ?_ _)); refine blk_far ?_ NB240_242.out _; (with_reducible repeat (first | refine blk_drewN ?_ _ | refine blk_drew ?_ | refine blk_alloc ?_ _)); refine blk_far ?_ NB240_242.out _; (with_reducible repeat (first | refine blk_drewN ?_ _ | refine blk_drew ?_ | refine blk_alloc ?_ _)); refine blk_far ?_ NB240_242.out _; (with_reducible repeat (first | refine blk_drewN ?_ _ | refine blk_drew ?_ | refine blk_alloc ?_ _)); exact BK240.out))⟩; have n1_ : Aside0 (w12.heap[gb242]? = some (.cells #[.int .i64 ((rd_T55 l1 x10_1).f0), .int .i64 ((rd_T55 l1 x10_1).f1), .int .i64 ((rd_T55 l1 x10_1).f2)] 55 (0, 0))) := ⟨(by rw [hw]; exact (by (with_reducible repeat (first | refine blk_drewN ?_ _ | refine blk_drew ?_ | refine blk_alloc ?_ _)); refine blk_put (cs := #[.int .i64 ((rd_T55 l1 x10_1).f0), .int .i64 ((rd_T55 l1 x10_1).f1), .int .i64 0]) ?_ 2 _ rfl; (with_reducible repeat (first | refine blk_drewN ?_ _ | refine blk_drew ?_ | refine blk_alloc ?_ _)); refine blk_put (cs := #[.int .i64 ((rd_T55 l1 x10_1).f0), .int .i64 0, .int .i64 0]) ?_ 1 _ rfl; (with_reducible repeat (first | refine blk_drewN ?_ _ | refine blk_drew ?_ | refine blk_alloc ?_ _)); refine blk_put (cs := #[.int .i64 0, .int .i64 0, .int .i64 0]) ?_ 0 _ rfl; (with_reducible repeat (first | refine blk_drewN ?_ _ | refine blk_drew ?_ | refine blk_alloc ?_ _)); exact BK242.out))⟩; have n2_ : Aside0 (Below w.heap.size w w12) := ⟨(by rw [hw]; exact Xi)⟩; clear hw; clear BK240; clear BK242; clear HB; have BK240 := n0_; have BK242 := n1_; have HB := n2_; clear n0_ n1_ n2_; obtain ⟨hcz13_0, hcz13_1, hcz13_2⟩ := Xc3 BK242; obtain ⟨hfz13_0, hfz13_1, hfz13_2⟩ := Xf3 BK242))
    have H := HC8.out
    clear HC8
    obtain ⟨c14, H⟩ | ⟨c14, H⟩ := Xiu H
    ·have c14b0 : (((rd_T55 l1 x10_1).f0) == a2) = true := beq_iff_eq.mpr c14
     have c14b1 : (((rd_T55 l1 x10_1).f0) != a2) = false := bne_eq_false_iff_eq.mpr c14
     clear c14
     (first | rw [c14b0] | (simp only [i64_w, i32_w]; rw [c14b0]) | skip)
     obtain ⟨c15, H⟩ | ⟨c15, H⟩ := Xiu H
     ·have c15b0 : (((rd_T55 l1 x10_1).f1) == a3) = true := beq_iff_eq.mpr c15
      have c15b1 : (((rd_T55 l1 x10_1).f1) != a3) = false := bne_eq_false_iff_eq.mpr c15
      clear c15
      obtain ⟨t243, A16, H⟩ := Xbi H
      (try dsimp only at H)
      have H' := Aside0.mk H
      clear H
      have hnb17 := NB242_240.out
      have hnc17 := NB240_242.out
      obtain ⟨hcz18_0, hcz18_1, hcz18_2⟩ := Xc3 BK242
      obtain ⟨hfz18_0, hfz18_1, hfz18_2⟩ := Xf3 BK242
      go_wp2_with (first | ((with_reducible refine gate_callee (f := 88) rfl ?_); refine Xgo 33 Try.func88 #[.int .i64 x9_1, .int .i64 ((rd_T55 l1 x10_1).f2)] ?_; (with_reducible refine (spec_l07Join.calls k1 x9_1 ((rd_T55 l1 x10_1).f2) t243 _ A16.out).mono ?_); rintro e w19 ⟨rfl, hb⟩; refine ⟨_, rfl, ?_⟩; replace BK240 := Xbb BK240 hb; replace BK242 := Xbb BK242 hb; replace HB := Aside0.mk (below_step Xi hb); clear hb))
      go_roundg k1
      case measure => have := HK1.out; omega
      case rel => exact ⟨(t243), (wrap64 (x10_1 + 1)), Xr, Xr, H', Xk1, BK240, ⟨Xi⟩⟩
     ·have c15b0 : (((rd_T55 l1 x10_1).f1) == a3) = false := beq_eq_false_iff_ne.mpr c15
      have c15b1 : (((rd_T55 l1 x10_1).f1) != a3) = true := bne_iff_ne.mpr c15
      obtain ⟨t244, A20, H⟩ := Xbi H
      (try dsimp only at H)
      obtain ⟨t247, A21, H⟩ := Xbi H
      (try dsimp only at H)
      have HC22 := Aside0.mk H
      clear H
      have hnb23 := NB242_240.out
      have hnc23 := NB240_242.out
      obtain ⟨hcz24_0, hcz24_1, hcz24_2⟩ := Xc3 BK242
      obtain ⟨hfz24_0, hfz24_1, hfz24_2⟩ := Xf3 BK242
      obtain ⟨hcz25_0, hcz25_1, hcz25_2⟩ := Xc3 BK240
      obtain ⟨hfz25_0, hfz25_1, hfz25_2⟩ := Xf3 BK240
      go_upto_if 39 with (first | ((with_reducible refine gate_callee (f := 87) rfl ?_); refine Xgo 37 Try.func87 #[.agg #[.int .i64 a0_0, .int .i64 a0_1, .slice A0_2 l0_2.length c0_2], .int .i64 ((rd_T55 l1 x10_1).f1)] ?_; (with_reducible refine (spec_l02Path.calls k1 a0_0 a0_1 _ _ l0_2 ((rd_T55 l1 x10_1).f1) t244 _ ?side1 ?side2 A20.out).mono ?_); (case side1 => exact Xc HR0_2); (case side2 => exact HC0_2.out); rintro e w26 ⟨v245, rfl, ho0, hb⟩; refine ⟨_, rfl, ?_⟩; have HO246 := Aside0.mk (Kd.R_lower ho0 (below_size Xi)); replace BK240 := Xbb BK240 hb; replace BK242 := Xbb BK242 hb; replace HB := Aside0.mk (below_step Xi hb); clear hb; (try clear ho0); obtain ⟨Ao27, co27, eo27⟩ := Kd.R_slice HO246.out; subst eo27) | ((with_reducible refine gate_callee (f := 91) rfl ?_); refine Xgo 39 Try.func91 #[.slice Ao27 t244.length co27, .int .i64 a3] ?_; (with_reducible refine (spec_l02Has.calls k1 _ _ t244 a3 t247 _ ?side1 ?side2 A21.out).mono ?_); (case side1 => repeat (first | exact (Kd.R_reads' HO246.out).2.2 | (with_reducible first | refine Kd.C_alloc ?_ _ | refine Kd.C_drewN ?_ _ | refine Kd.C_drew ?_))); (case side2 => exact (Kd.R_reads' HO246.out).2.1); rintro e w' ⟨rfl, ⟨nd, rfl⟩⟩; refine ⟨_, rfl, ?_⟩))
      have H := HC22.out
      clear HC22
      by_cases c28 : t247 = true
      ·subst c28
       (first | rw [if_pos rfl] at H | skip)
       obtain ⟨t248, A29, H⟩ := Xbi H
       (try dsimp only at H)
       obtain ⟨t249, A30, H⟩ := Xbi H
       (try dsimp only at H)
       have H' := Aside0.mk H
       clear H
       have hnb31 := NB242_240.out
       have hnc31 := NB240_242.out
       obtain ⟨hcz32_0, hcz32_1, hcz32_2⟩ := Xc3 BK242
       obtain ⟨hfz32_0, hfz32_1, hfz32_2⟩ := Xf3 BK242
       go_wp2_with (first | ((with_reducible refine gate_callee (f := 92) rfl ?_); refine Xgo 43 Try.func92 #[.int .i64 ((rd_T55 l1 x10_1).f2)] ?_; (with_reducible refine (spec_l07Intent.calls ((rd_T55 l1 x10_1).f2) t248 _ A29.out).mono ?_); rintro e w' ⟨rfl, ⟨nd, rfl⟩⟩; refine ⟨_, rfl, ?_⟩) | ((with_reducible refine gate_callee (f := 88) rfl ?_); refine Xgo 44 Try.func88 #[.int .i64 x9_1, .int .i64 t248] ?_; (with_reducible refine (spec_l07Join.calls k1 x9_1 t248 t249 _ A30.out).mono ?_); rintro e w33 ⟨rfl, hb⟩; refine ⟨_, rfl, ?_⟩; replace HO246 := Aside0.mk (Kd.R_below (Xq HO246) hb); replace BK240 := Xbb BK240 hb; replace BK242 := Xbb BK242 hb; replace HB := Aside0.mk (below_step Xi hb); clear hb))
       go_roundg k1
       case measure => have := HK1.out; omega
       case rel => exact ⟨(t249), (wrap64 (x10_1 + 1)), Xr, Xr, H', Xk1, BK240, ⟨Xi⟩⟩
      ·replace c28 := Bool.eq_false_iff.mpr c28
       subst c28
       (first | rw [if_neg (show ¬ (false = true) by decide)] at H | skip)
       have H' := Aside0.mk H
       clear H
       go_wp2
       go_roundg k1
       case measure => have := HK1.out; omega
       case rel => exact ⟨(x9_1), (wrap64 (x10_1 + 1)), Xr, Xr, H', Xk1, BK240, ⟨Xi⟩⟩
    ·have c14b0 : (((rd_T55 l1 x10_1).f0) == a2) = false := beq_eq_false_iff_ne.mpr c14
     have c14b1 : (((rd_T55 l1 x10_1).f0) != a2) = true := bne_iff_ne.mpr c14
     (first | rw [c14b0] | (simp only [i64_w, i32_w]; rw [c14b0]) | skip)
     have H' := Aside0.mk H
     clear H
     go_wp2
     go_roundg k1
     case measure => have := HK1.out; omega
     case rel => exact ⟨(x9_1), (wrap64 (x10_1 + 1)), Xr, Xr, H', Xk1, BK240, ⟨Xi⟩⟩
   ·obtain rfl := Option.some.inj H
    go_wp2
    go_ret
    exact ⟨Xe, Xi⟩

/-! ### spec_ModeAt: function 23 -/
def spec_ModeAt.f (k : Nat) (a0_0 : Int) (a0_1 : Int) (l0_2 : List (S92)) (l1 : List (S55)) (a2 : Int) (a3 : Int) : Option (Int × Int) := if (l1.length : Int) > 4096 then (some (0, 2)) else ((spec_l07Ask.f k a0_0 a0_1 l0_2 l1 a2 a3).bind fun t251 => (if t251 = 0 then ((spec_l07At.f k a0_0 a0_1 l0_2 l1 a2 a3).bind fun t252 => (some (t252, 0))) else (some (0, t251))))
set_option maxHeartbeats 8000000 in
set_option maxRecDepth 100000 in
theorem spec_ModeAt.calls (k : Nat) (a0_0 : Int) (a0_1 : Int) (A0_2 : Option Addr) (c0_2 : Nat) (l0_2 : List (S92)) (A1 : Option Addr) (c1 : Nat) (l1 : List (S55)) (a2 : Int) (a3 : Int) (r1 : Int) (r2 : Int) (w : World) (hr0_2 : Kd.C k92 w A0_2 l0_2.length l0_2) (hc0_2 : l0_2.length ≤ c0_2) (hr1 : Kd.C k55 w A1 l1.length l1) (hc1 : l1.length ≤ c1) (h : spec_ModeAt.f k a0_0 a0_1 l0_2 l1 a2 a3 = some (r1, r2)) :
  Calls Try.prog 23 #[.agg #[.int .i64 a0_0, .int .i64 a0_1, .slice A0_2 l0_2.length c0_2], .slice A1 l1.length c1, .int .i64 a2, .int .i64 a3] w fun e w' => e = .returned (.tuple #[.int .i64 r1, .int .i64 r2]) ∧ Below w.heap.size w w' := by
 have hu33 := Try.underlying33
 have HR0_2 := Aside0.mk hr0_2
 have HC0_2 := Aside0.mk hc0_2
 clear hr0_2 hc0_2
 have HR1 := Aside0.mk hr1
 have HC1 := Aside0.mk hc1
 clear hr1 hc1
 have HB := Aside0.mk (Below.refl w.heap.size w)
 have H : (if (l1.length : Int) > 4096 then (some (0, 2)) else ((spec_l07Ask.f k a0_0 a0_1 l0_2 l1 a2 a3).bind fun t251 => (if t251 = 0 then ((spec_l07At.f k a0_0 a0_1 l0_2 l1 a2 a3).bind fun t252 => (some (t252, 0))) else (some (0, t251))))) = some (r1, r2) := h
 clear h
 have HC5 := Aside0.mk H
 clear H
 go_enter Try.func23, Try.ntmps23
 go_upto_if 13 with (first | ((with_reducible refine gate_dst (N := 4) rfl ?_); refine Xbox 4 #[.int .i64 a0_0, .int .i64 a0_1, .slice A0_2 l0_2.length c0_2] 33 ?_; intro gb250 hg w6 hbox hb; have BK250 := Aside0.mk (hbox); have GE250 := Xge hg Xi; replace HB := Aside0.mk (below_step Xi hb); clear hb hbox hg))
 have H := HC5.out
 clear HC5
 obtain ⟨c7, H⟩ | ⟨c7, H⟩ := Xiu H
 ·have c7b0 : decide (4096 < (l1.length : Int)) = true := decide_eq_true c7
  have c7b1 : decide (4096 < l1.length) = true := decide_eq_true (by omega)
  clear c7
  (first | rw [c7b0] | (simp only [i64_w, i32_w]; rw [c7b0]) | skip)
  simp only [Option.some.injEq, Prod.mk.injEq] at H
  obtain ⟨rfl, rfl⟩ := H
  go_wp2
  go_ret2
  exact ⟨Xe, Xi⟩
 ·have c7b0 : decide (4096 < (l1.length : Int)) = false := decide_eq_false c7
  have c7b1 : decide (4096 < l1.length) = false := decide_eq_false (by omega)
  clear c7
  (first | rw [c7b0] | (simp only [i64_w, i32_w]; rw [c7b0]) | skip)
  obtain ⟨t251, A8, H⟩ := Xbi H
  (try dsimp only at H)
  have HC9 := Aside0.mk H
  clear H
  obtain ⟨hcz10_0, hcz10_1, hcz10_2⟩ := Xc3 BK250
  go_upto_if 20 with (first | ((with_reducible refine gate_callee (f := 46) rfl ?_); refine Xgo 18 Try.func46 #[.agg #[.int .i64 a0_0, .int .i64 a0_1, .slice A0_2 l0_2.length c0_2], .slice A1 l1.length c1, .int .i64 a2, .int .i64 a3] ?_; (with_reducible refine (spec_l07Ask.calls k a0_0 a0_1 _ _ l0_2 _ _ l1 a2 a3 t251 _ ?side1 ?side2 ?side3 ?side4 A8.out).mono ?_); (case side1 => exact Xc HR0_2); (case side2 => exact HC0_2.out); (case side3 => exact Xc HR1); (case side4 => exact HC1.out); rintro e w11 ⟨rfl, hb⟩; refine ⟨_, rfl, ?_⟩; replace BK250 := Xbb BK250 hb; replace HB := Aside0.mk (below_step Xi hb); clear hb))
  have H := HC9.out
  clear HC9
  obtain ⟨c12, H⟩ | ⟨c12, H⟩ := Xiu H
  ·have c12b0 : (t251 == 0) = true := beq_iff_eq.mpr c12
   have c12b1 : (t251 != 0) = false := bne_eq_false_iff_eq.mpr c12
   clear c12
   (first | rw [c12b0] | (simp only [i64_w, i32_w]; rw [c12b0]) | skip)
   obtain ⟨t252, A13, H⟩ := Xbi H
   (try dsimp only at H)
   simp only [Option.some.injEq, Prod.mk.injEq] at H
   obtain ⟨rfl, rfl⟩ := H
   obtain ⟨hcz14_0, hcz14_1, hcz14_2⟩ := Xc3 BK250
   go_wp2_with (first | ((with_reducible refine gate_callee (f := 51) rfl ?_); refine Xgo 26 Try.func51 #[.agg #[.int .i64 a0_0, .int .i64 a0_1, .slice A0_2 l0_2.length c0_2], .slice A1 l1.length c1, .int .i64 a2, .int .i64 a3] ?_; (with_reducible refine (spec_l07At.calls k a0_0 a0_1 _ _ l0_2 _ _ l1 a2 a3 t252 _ ?side1 ?side2 ?side3 ?side4 A13.out).mono ?_); (case side1 => exact Xc HR0_2); (case side2 => exact HC0_2.out); (case side3 => exact Xc HR1); (case side4 => exact HC1.out); rintro e w15 ⟨rfl, hb⟩; refine ⟨_, rfl, ?_⟩; replace BK250 := Xbb BK250 hb; replace HB := Aside0.mk (below_step Xi hb); clear hb))
   go_ret2
   exact ⟨Xe, Xi⟩
  ·have c12b0 : (t251 == 0) = false := beq_eq_false_iff_ne.mpr c12
   have c12b1 : (t251 != 0) = true := bne_iff_ne.mpr c12
   (first | rw [c12b0] | (simp only [i64_w, i32_w]; rw [c12b0]) | skip)
   simp only [Option.some.injEq, Prod.mk.injEq] at H
   obtain ⟨rfl, rfl⟩ := H
   go_wp2
   go_ret2
   exact ⟨Xe, Xi⟩

/-! ### impl_within: function 121 -/
def impl_within.f (a0 : Int) (a1 : Int) (a2 : Int) : Option (Bool) := if a0 ≥ a1 then (some (decide (a0 ≤ a2))) else (some false)
set_option maxHeartbeats 8000000 in
set_option maxRecDepth 100000 in
theorem impl_within.calls (a0 : Int) (a1 : Int) (a2 : Int) (r : Bool) (w : World) (h : impl_within.f a0 a1 a2 = some r) :
  Calls Try.prog 121 #[.int .i64 a0, .int .i64 a1, .int .i64 a2] w fun e w' => e = .returned (.bool r) ∧ Drawn0 w w' := by
 have H : (if a0 ≥ a1 then (some (decide (a0 ≤ a2))) else (some false)) = some r := h
 clear h
 obtain ⟨c4, H⟩ | ⟨c4, H⟩ := Xiu H
 ·have c4b0 : decide (a1 ≤ a0) = true := decide_eq_true c4
  clear c4
  obtain rfl := Option.some.inj H
  go_enter Try.func121, Try.ntmps121
  go_wp2
  go_ret
  exact ⟨Xr, Xdr⟩
 ·have c4b0 : decide (a1 ≤ a0) = false := decide_eq_false c4
  clear c4
  obtain rfl := Option.some.inj H
  go_enter Try.func121, Try.ntmps121
  go_wp2
  go_ret
  exact ⟨Xr, Xdr⟩

end Go.Proofs.Ytnanfenogmpemaa.XA
