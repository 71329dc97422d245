/- Contracts of the program's functions: each Go function that is named below comes to what its Lean function says. Written by xprint.py (a program of this session's, over the kit's print). Conditions: each contract's own premises. -/
import Derived.Test.YtfemohapampkiaaYCopySub0
import Derived.Test.YtfemohapampkiaaYCopySub2
import Derived.Test.YtfemohapampkiaaYCopySub3
import Derived.Test.YtfemohapampkiaaYCopySub4
import Derived.Test.YtfemohapampkiaaYCopySub5
namespace Go.Proofs.Ytfemohapampkiaa.XA
open Go.RowKit Go.Proofs.YtfemohapampkiaaW.PrintWords Go.Proofs.YtfemohapampkiaaW.PrintLast Go.Proofs.YtfemohapampkiaaW.PrintMore XW
attribute [local go_sem] max2_int min2_int max_two min_two max_three min_three max_four min_four   -- for this text's walks alone
set_option linter.unusedVariables false
set_option linter.unusedSimpArgs false

/-! ### spec_l02OK: function 58 -/
def spec_l02OK.f (k : Nat) (a0_0 : Int) (a0_1 : Int) (l0_2 : List (S88)) : Option (Bool) := (spec_l01In.f (l0_2.length : Int) 1 40).bind fun t190 => (if t190 = true then ((spec_l01In.f a0_1 2 999999).bind fun t191 => (if t191 = true then ((spec_l02Nodes.f k a0_0 a0_1 l0_2).bind fun t192 => (if t192 = true then ((spec_l02Reach.f k a0_0 a0_1 l0_2).bind fun t193 => (if t193 = true then ((spec_l02Deep.f k a0_0 a0_1 l0_2 a0_0 6).bind fun t194 => (some (decide (t194 ≤ 6)))) else (some false))) else (some false))) else (some false))) else (some false))
set_option maxHeartbeats 8000000 in
set_option maxRecDepth 100000 in
theorem spec_l02OK.calls (k : Nat) (a0_0 : Int) (a0_1 : Int) (A0_2 : Option Addr) (c0_2 : Nat) (l0_2 : List (S88)) (r : Bool) (w : World) (hr0_2 : Kd.C k88 w A0_2 l0_2.length l0_2) (hc0_2 : l0_2.length ≤ c0_2) (h : spec_l02OK.f k a0_0 a0_1 l0_2 = some r) :
  Calls Try.prog 58 #[.agg #[.int .i64 a0_0, .int .i64 a0_1, .slice A0_2 l0_2.length c0_2]] w fun e w' => e = .returned (.bool r) ∧ Below w.heap.size w w' := by
 have hu29 := Try.underlying29
 have HR0_2 := Aside0.mk hr0_2
 have HC0_2 := Aside0.mk hc0_2
 clear hr0_2 hc0_2
 have HB := Aside0.mk (Below.refl w.heap.size w)
 have H : ((spec_l01In.f (l0_2.length : Int) 1 40).bind fun t190 => (if t190 = true then ((spec_l01In.f a0_1 2 999999).bind fun t191 => (if t191 = true then ((spec_l02Nodes.f k a0_0 a0_1 l0_2).bind fun t192 => (if t192 = true then ((spec_l02Reach.f k a0_0 a0_1 l0_2).bind fun t193 => (if t193 = true then ((spec_l02Deep.f k a0_0 a0_1 l0_2 a0_0 6).bind fun t194 => (some (decide (t194 ≤ 6)))) else (some false))) else (some false))) else (some false))) else (some false))) = some r := h
 clear h
 have HC2 := Aside0.mk H
 clear H
 go_enter Try.func58, Try.ntmps58
 go_upto_region 1 with (first | ((with_reducible refine gate_dst (N := 1) rfl ?_); refine Xbox 1 #[.int .i64 a0_0, .int .i64 a0_1, .slice A0_2 l0_2.length c0_2] 29 ?_; intro gb189 hg w3 hbox hb; have BK189 := Aside0.mk (hbox); have GE189 := Xge hg Xi; replace HB := Aside0.mk (below_step Xi hb); clear hb hbox hg))
 have H := HC2.out
 clear HC2
 obtain ⟨t190, A4, H⟩ := Xbi H
 (try dsimp only at H)
 by_cases c5 : t190 = true
 ·subst c5
  (first | rw [if_pos rfl] at H | skip)
  obtain ⟨t191, A6, H⟩ := Xbi H
  (try dsimp only at H)
  by_cases c7 : t191 = true
  ·subst c7
   (first | rw [if_pos rfl] at H | skip)
   obtain ⟨t192, A8, H⟩ := Xbi H
   (try dsimp only at H)
   by_cases c9 : t192 = true
   ·subst c9
    (first | rw [if_pos rfl] at H | skip)
    obtain ⟨t193, A10, H⟩ := Xbi H
    (try dsimp only at H)
    by_cases c11 : t193 = true
    ·subst c11
     (first | rw [if_pos rfl] at H | skip)
     obtain ⟨t194, A12, H⟩ := Xbi H
     (try dsimp only at H)
     obtain rfl := Option.some.inj H
     obtain ⟨hcz13_0, hcz13_1, hcz13_2⟩ := Xc3 BK189
     go_wp2_with (first | ((with_reducible refine gate_callee (f := 116) rfl ?_); refine Xgo 6 Try.func116 #[.int .i64 (l0_2.length : Int), .int .i64 1, .int .i64 40] ?_; (with_reducible refine (spec_l01In.calls (l0_2.length : Int) 1 40 true _ A4.out).mono ?_); rintro e w' ⟨rfl, ⟨nd, rfl⟩⟩; refine ⟨_, rfl, ?_⟩) | (go_at_call 116; (with_reducible refine (spec_l01In.calls a0_1 2 999999 true _ A6.out).mono ?_); rintro e w' ⟨rfl, ⟨nd, rfl⟩⟩) | (go_at_call 117; (with_reducible refine (spec_l02Nodes.calls k a0_0 a0_1 _ _ l0_2 true _ ?side1 ?side2 A8.out).mono ?_); (case side1 => exact Xc HR0_2); (case side2 => exact HC0_2.out); rintro e w14 ⟨rfl, hb⟩; replace BK189 := Xbb BK189 hb; replace HB := Aside0.mk (below_step Xi hb); clear hb; obtain ⟨hcz15_0, hcz15_1, hcz15_2⟩ := Xc3 BK189) | (go_at_call 118; (with_reducible refine (spec_l02Reach.calls k a0_0 a0_1 _ _ l0_2 true _ ?side1 ?side2 A10.out).mono ?_); (case side1 => exact Xc HR0_2); (case side2 => exact HC0_2.out); rintro e w16 ⟨rfl, hb⟩; replace BK189 := Xbb BK189 hb; replace HB := Aside0.mk (below_step Xi hb); clear hb; obtain ⟨hcz17_0, hcz17_1, hcz17_2⟩ := Xc3 BK189) | (go_at_call 119; (with_reducible refine (spec_l02Deep.calls k a0_0 a0_1 _ _ l0_2 a0_0 6 t194 _ ?side1 ?side2 A12.out).mono ?_); (case side1 => exact Xc HR0_2); (case side2 => exact HC0_2.out); rintro e w18 ⟨rfl, hb⟩; replace BK189 := Xbb BK189 hb; replace HB := Aside0.mk (below_step Xi hb); clear hb))
     go_ret
     exact ⟨Xe, Xi⟩
    ·replace c11 := Bool.eq_false_iff.mpr c11
     subst c11
     (first | rw [if_neg (show ¬ (false = true) by decide)] at H | skip)
     obtain rfl := Option.some.inj H
     obtain ⟨hcz19_0, hcz19_1, hcz19_2⟩ := Xc3 BK189
     go_wp2_with (first | ((with_reducible refine gate_callee (f := 116) rfl ?_); refine Xgo 6 Try.func116 #[.int .i64 (l0_2.length : Int), .int .i64 1, .int .i64 40] ?_; (with_reducible refine (spec_l01In.calls (l0_2.length : Int) 1 40 true _ A4.out).mono ?_); rintro e w' ⟨rfl, ⟨nd, rfl⟩⟩; refine ⟨_, rfl, ?_⟩) | (go_at_call 116; (with_reducible refine (spec_l01In.calls a0_1 2 999999 true _ A6.out).mono ?_); rintro e w' ⟨rfl, ⟨nd, rfl⟩⟩) | (go_at_call 117; (with_reducible refine (spec_l02Nodes.calls k a0_0 a0_1 _ _ l0_2 true _ ?side1 ?side2 A8.out).mono ?_); (case side1 => exact Xc HR0_2); (case side2 => exact HC0_2.out); rintro e w20 ⟨rfl, hb⟩; replace BK189 := Xbb BK189 hb; replace HB := Aside0.mk (below_step Xi hb); clear hb; obtain ⟨hcz21_0, hcz21_1, hcz21_2⟩ := Xc3 BK189) | (go_at_call 118; (with_reducible refine (spec_l02Reach.calls k a0_0 a0_1 _ _ l0_2 false _ ?side1 ?side2 A10.out).mono ?_); (case side1 => exact Xc HR0_2); (case side2 => exact HC0_2.out); rintro e w22 ⟨rfl, hb⟩; replace BK189 := Xbb BK189 hb; replace HB := Aside0.mk (below_step Xi hb); clear hb))
     go_ret
     exact ⟨Xe, Xi⟩
   ·replace c9 := Bool.eq_false_iff.mpr c9
    subst c9
    (first | rw [if_neg (show ¬ (false = true) by decide)] at H | skip)
    obtain rfl := Option.some.inj H
    obtain ⟨hcz23_0, hcz23_1, hcz23_2⟩ := Xc3 BK189
    go_wp2_with (first | ((with_reducible refine gate_callee (f := 116) rfl ?_); refine Xgo 6 Try.func116 #[.int .i64 (l0_2.length : Int), .int .i64 1, .int .i64 40] ?_; (with_reducible refine (spec_l01In.calls (l0_2.length : Int) 1 40 true _ A4.out).mono ?_); rintro e w' ⟨rfl, ⟨nd, rfl⟩⟩; refine ⟨_, rfl, ?_⟩) | (go_at_call 116; (with_reducible refine (spec_l01In.calls a0_1 2 999999 true _ A6.out).mono ?_); rintro e w' ⟨rfl, ⟨nd, rfl⟩⟩) | (go_at_call 117; (with_reducible refine (spec_l02Nodes.calls k a0_0 a0_1 _ _ l0_2 false _ ?side1 ?side2 A8.out).mono ?_); (case side1 => exact Xc HR0_2); (case side2 => exact HC0_2.out); rintro e w24 ⟨rfl, hb⟩; replace BK189 := Xbb BK189 hb; replace HB := Aside0.mk (below_step Xi hb); clear hb))
    go_ret
    exact ⟨Xe, Xi⟩
  ·replace c7 := Bool.eq_false_iff.mpr c7
   subst c7
   (first | rw [if_neg (show ¬ (false = true) by decide)] at H | skip)
   obtain rfl := Option.some.inj H
   obtain ⟨hcz25_0, hcz25_1, hcz25_2⟩ := Xc3 BK189
   go_wp2_with (first | ((with_reducible refine gate_callee (f := 116) rfl ?_); refine Xgo 6 Try.func116 #[.int .i64 (l0_2.length : Int), .int .i64 1, .int .i64 40] ?_; (with_reducible refine (spec_l01In.calls (l0_2.length : Int) 1 40 true _ A4.out).mono ?_); rintro e w' ⟨rfl, ⟨nd, rfl⟩⟩; refine ⟨_, rfl, ?_⟩) | (go_at_call 116; (with_reducible refine (spec_l01In.calls a0_1 2 999999 false _ A6.out).mono ?_); rintro e w' ⟨rfl, ⟨nd, rfl⟩⟩))
   go_ret
   exact ⟨Xe, Xi⟩
 ·replace c5 := Bool.eq_false_iff.mpr c5
  subst c5
  (first | rw [if_neg (show ¬ (false = true) by decide)] at H | skip)
  obtain rfl := Option.some.inj H
  obtain ⟨hcz26_0, hcz26_1, hcz26_2⟩ := Xc3 BK189
  go_wp2_with (first | ((with_reducible refine gate_callee (f := 116) rfl ?_); refine Xgo 6 Try.func116 #[.int .i64 (l0_2.length : Int), .int .i64 1, .int .i64 40] ?_; (with_reducible refine (spec_l01In.calls (l0_2.length : Int) 1 40 false _ A4.out).mono ?_); rintro e w' ⟨rfl, ⟨nd, rfl⟩⟩; refine ⟨_, rfl, ?_⟩))
  go_ret
  exact ⟨Xe, Xi⟩

/-! ### spec_l02Ask: function 67 -/
def spec_l02Ask.f (k : Nat) (a0_0 : Int) (a0_1 : Int) (l0_2 : List (S88)) (a1 : Int) : Option (Int) := (spec_l02OK.f k a0_0 a0_1 l0_2).bind fun t196 => (if t196 = true then ((spec_l02At.f k a0_0 a0_1 l0_2 a1).bind fun t197 => (if t197 < 0 then (some 5) else (some 0))) else (some 1))
set_option maxHeartbeats 8000000 in
set_option maxRecDepth 100000 in
theorem spec_l02Ask.calls (k : Nat) (a0_0 : Int) (a0_1 : Int) (A0_2 : Option Addr) (c0_2 : Nat) (l0_2 : List (S88)) (a1 : Int) (r : Int) (w : World) (hr0_2 : Kd.C k88 w A0_2 l0_2.length l0_2) (hc0_2 : l0_2.length ≤ c0_2) (h : spec_l02Ask.f k a0_0 a0_1 l0_2 a1 = some r) :
  Calls Try.prog 67 #[.agg #[.int .i64 a0_0, .int .i64 a0_1, .slice A0_2 l0_2.length c0_2], .int .i64 a1] w fun e w' => e = .returned (.int .i64 r) ∧ Below w.heap.size w w' := by
 have hu29 := Try.underlying29
 have HR0_2 := Aside0.mk hr0_2
 have HC0_2 := Aside0.mk hc0_2
 clear hr0_2 hc0_2
 have HB := Aside0.mk (Below.refl w.heap.size w)
 have H : ((spec_l02OK.f k a0_0 a0_1 l0_2).bind fun t196 => (if t196 = true then ((spec_l02At.f k a0_0 a0_1 l0_2 a1).bind fun t197 => (if t197 < 0 then (some 5) else (some 0))) else (some 1))) = some r := h
 clear h
 obtain ⟨t196, A3, H⟩ := Xbi H
 (try dsimp only at H)
 have HC4 := Aside0.mk H
 clear H
 go_enter Try.func67, Try.ntmps67
 go_upto_if 7 with (first | ((with_reducible refine gate_dst (N := 2) rfl ?_); refine Xbox 2 #[.int .i64 a0_0, .int .i64 a0_1, .slice A0_2 l0_2.length c0_2] 29 ?_; intro gb195 hg w5 hbox hb; have BK195 := Aside0.mk (hbox); have GE195 := Xge hg Xi; replace HB := Aside0.mk (below_step Xi hb); clear hb hbox hg; obtain ⟨hcz6_0, hcz6_1, hcz6_2⟩ := Xc3 BK195) | ((with_reducible refine gate_callee (f := 58) rfl ?_); refine Xgo 6 Try.func58 #[.agg #[.int .i64 a0_0, .int .i64 a0_1, .slice A0_2 l0_2.length c0_2]] ?_; (with_reducible refine (spec_l02OK.calls k a0_0 a0_1 _ _ l0_2 t196 _ ?side1 ?side2 A3.out).mono ?_); (case side1 => exact Xc HR0_2); (case side2 => exact HC0_2.out); rintro e w7 ⟨rfl, hb⟩; refine ⟨_, rfl, ?_⟩; replace BK195 := Xbb BK195 hb; replace HB := Aside0.mk (below_step Xi hb); clear hb))
 have H := HC4.out
 clear HC4
 by_cases c8 : t196 = true
 ·subst c8
  (first | rw [if_pos rfl] at H | skip)
  obtain ⟨t197, A9, H⟩ := Xbi H
  (try dsimp only at H)
  have HC10 := Aside0.mk H
  clear H
  obtain ⟨hcz11_0, hcz11_1, hcz11_2⟩ := Xc3 BK195
  go_upto_if 11 with (first | ((with_reducible refine gate_callee (f := 69) rfl ?_); refine Xgo 10 Try.func69 #[.agg #[.int .i64 a0_0, .int .i64 a0_1, .slice A0_2 l0_2.length c0_2], .int .i64 a1] ?_; (with_reducible refine (spec_l02At.calls k a0_0 a0_1 _ _ l0_2 a1 t197 _ ?side1 ?side2 A9.out).mono ?_); (case side1 => exact Xc HR0_2); (case side2 => exact HC0_2.out); rintro e w12 ⟨rfl, hb⟩; refine ⟨_, rfl, ?_⟩; replace BK195 := Xbb BK195 hb; replace HB := Aside0.mk (below_step Xi hb); clear hb))
  have H := HC10.out
  clear HC10
  obtain ⟨c13b0, H⟩ | ⟨c13b0, H⟩ := Xit H
  ·(first | rw [c13b0] | (simp only [i64_w, i32_w]; rw [c13b0]) | skip)
   obtain rfl := Option.some.inj H
   go_wp2
   go_ret
   exact ⟨Xe, Xi⟩
  ·(first | rw [c13b0] | (simp only [i64_w, i32_w]; rw [c13b0]) | skip)
   obtain rfl := Option.some.inj H
   go_wp2
   go_ret
   exact ⟨Xe, Xi⟩
 ·replace c8 := Bool.eq_false_iff.mpr c8
  subst c8
  (first | rw [if_neg (show ¬ (false = true) by decide)] at H | skip)
  obtain rfl := Option.some.inj H
  go_wp2
  go_ret
  exact ⟨Xe, Xi⟩

/-! ### spec_l02Order: function 128 -/
mutual
def spec_l02Order.l0 : Nat → List Int → List Int → Int → Int → Int → List (S88) → Option (List Int)
 | 0, _, _, _, _, _, _ => none
 | k + 1, x5, x6, x7, x199000, x199001, x199002 => if x7 < (x6.length : Int) then (if 0 ≤ x7 then ((spec_l02Order.f k x199000 x199001 x199002 (rd x6 x7)).bind fun t205 => (if x5.length + t205.length < 17592186044416 then (spec_l02Order.l0 k (x5 ++ t205) x6 (wrap64 (x7 + 1)) x199000 x199001 x199002) else (none))) else (none)) else (some x5)
def spec_l02Order.f : Nat → Int → Int → List (S88) → Int → Option (List Int)
 | 0, _, _, _, _ => none
 | k + 1, a0_0, a0_1, l0_2, a1 => (spec_l02At.f k a0_0 a0_1 l0_2 a1).bind fun t202 => (if 0 ≤ t202 then (if t202 < (l0_2.length : Int) then (spec_l02Order.l0 k (([a1] : List Int)) ((rd_T88 l0_2 t202).f4) 0 a0_0 a0_1 l0_2) else (none)) else (none))
end
def spec_l02Order.T2 : Bool × List (List Nat × List Nat) := (true, [([], []), ([0], [0]), ([], []), ([], []), ([2, 3], [2, 3]), ([1, 4], [1, 4]), ([5], [5]), ([6], [6]), ([7, 4, 0, 1, 2, 3, 4, 5, 6, 7], [7])])
def spec_l02Order.B2 : List Nat := [0, 1, 0, 0, 12, 31, 63, 127, 255]
theorem spec_l02Order.tab2 : rtab .any (opsOf Try.f128 2) = spec_l02Order.T2 := by kernel_rfl
theorem spec_l02Order.bits2 : waitsOk spec_l02Order.T2.2 spec_l02Order.B2 = true := by kernel_rfl
def spec_l02Order.T6 : Bool × List (List Nat × List Nat) := (true, [([], []), ([], []), ([], []), ([], []), ([2, 3], [2, 3]), ([4], [4]), ([1, 5], [1, 5]), ([0, 6, 6], [0, 6]), ([7, 7, 0, 1, 2, 3, 4, 5, 6, 7], [0, 7])])
def spec_l02Order.B6 : List Nat := [0, 0, 0, 0, 12, 28, 62, 127, 255]
theorem spec_l02Order.tab6 : rtab .any (opsOf Try.f128 6) = spec_l02Order.T6 := by kernel_rfl
theorem spec_l02Order.bits6 : waitsOk spec_l02Order.T6.2 spec_l02Order.B6 = true := by kernel_rfl
set_option maxHeartbeats 8000000 in
set_option maxRecDepth 100000 in
theorem spec_l02Order.calls (k : Nat) : ∀ (a0_0 : Int) (a0_1 : Int) (A0_2 : Option Addr) (c0_2 : Nat) (l0_2 : List (S88)) (a1 : Int) (r : List Int) (w : World) (hr0_2 : Kd.C k88 w A0_2 l0_2.length l0_2) (hc0_2 : l0_2.length ≤ c0_2) (h : spec_l02Order.f k a0_0 a0_1 l0_2 a1 = some r),
  Calls Try.prog 128 #[.agg #[.int .i64 a0_0, .int .i64 a0_1, .slice A0_2 l0_2.length c0_2], .int .i64 a1] w fun e w' => ∃ v0_ : Value, e = .returned (v0_) ∧ Kd.R (Kd.int .i64) 3 w' w.heap.size (fun _ => True) v0_ r ∧ Below w.heap.size w w' := by
 induction k using Nat.strongRecOn with
 | _ k ih =>
 intro a0_0 a0_1 A0_2 c0_2 l0_2 a1 r w hr0_2 hc0_2 h
 cases k with
 | zero => exact absurd h (by simp [spec_l02Order.f])
 | succ k =>
 simp only [spec_l02Order.f] at h
 have hu29 := Try.underlying29
 have HR0_2 := Aside0.mk hr0_2
 have HC0_2 := Aside0.mk hc0_2
 clear hr0_2 hc0_2
 have HB := Aside0.mk (Below.refl w.heap.size w)
 have H : ((spec_l02At.f k a0_0 a0_1 l0_2 a1).bind fun t202 => (if 0 ≤ t202 then (if t202 < (l0_2.length : Int) then (spec_l02Order.l0 k (([a1] : List Int)) ((rd_T88 l0_2 t202).f4) 0 a0_0 a0_1 l0_2) else (none)) else (none))) = some r := h
 clear h
 obtain ⟨y199, hy199⟩ : ∃ y_ : List Int, y_ = (([a1] : List Int)) := ⟨_, rfl⟩
 replace H : ((spec_l02At.f k a0_0 a0_1 l0_2 a1).bind fun t202 => (if 0 ≤ t202 then (if t202 < (l0_2.length : Int) then (spec_l02Order.l0 k y199 ((rd_T88 l0_2 t202).f4) 0 a0_0 a0_1 l0_2) else (none)) else (none))) = some r := by first | (rw [hy199]; with_reducible exact H) | (have H2_ := (Option.bind_some _ _).symm.trans H; rw [hy199]; with_reducible exact H2_) | (have H2_ := (Option.bind_some _ _).symm.trans H; with_reducible exact H2_) | with_reducible exact H | (rw [hy199]; exact H) | exact H
 have Ny199 := Aside0.mk hy199
 clear hy199
 obtain ⟨t202, A3, H⟩ := Xbi H
 (try dsimp only at H)
 obtain ⟨c4, H⟩ | ⟨c4, H⟩ := Xiu H
 ·have c4b0 : decide (0 ≤ t202) = true := decide_eq_true c4
  clear c4
  obtain ⟨c5b0, H⟩ := Xid H
  have H' := Aside0.mk H
  clear H
  go_enter Try.func128, Try.ntmps128
  try go_wp2_with (first | ((with_reducible refine gate_dst (N := 2) rfl ?_); refine Xbox 2 #[.int .i64 a0_0, .int .i64 a0_1, .slice A0_2 l0_2.length c0_2] 29 ?_; intro gb198 hg w6 hbox hb; have BK198 := Aside0.mk (hbox); have GE198 := Xge hg Xi; replace HB := Aside0.mk (below_step Xi hb); clear hb hbox hg) | ((with_reducible refine gate_dst (N := 9) rfl ?_); refine Kd.R_lit (Kd.int .i64) _ 3 ?hg (N := 9) ?hd (xs := ([a1] : List Int)) (inner := [.int .i64 a1]) (ok := fun _ => True) (okp := fun _ => True) ?hr ?hp (fun _ hk => hk) trivial (Below.refl _ _) (Nat.le_refl _) (by simp) ?_; (case hd => rfl); (case hg => rfl); (case hr => first | (go_simp; done) | (go_simp; rfl)); (case hp => exact (Reps.one (show Kd.M (Kd.int .i64) _ _ _ a1 [.int .i64 a1] from rfl) (Reps.none _ _))); intro v200 w7 ho8 hb hg_ hnew_; clear hg_ hnew_; (first | rw [← Ny199.out] at ho8 | (simp only [Int.reduceToNat] at ho8; rw [← Ny199.out] at ho8)); have HO201 := Aside0.mk (Kd.R_lower ho8 (below_size Xi)); replace BK198 := Xbb BK198 hb; replace HB := Aside0.mk (below_step Xi hb); clear hb ho8))
  replace HO201 := Aside0.mk (Kd.R_drew HO201.out)
  replace BK198 := Aside0.mk (blk_drew BK198.out)
  replace HB := Aside0.mk (below_drew1 HB.out)
  have p203 : 0 ≤ (t202 : Int) := of_decide_eq_true Xa
  have q203 : t202 < (l0_2.length : Int) := of_decide_eq_true Xa
  obtain ⟨ad203, A203_4, c203_4, e203, hx203_0, hx203_1, hx203_2, hx203_3, hx203_4, hl203_4, hi203_4⟩ := at_T88 HR0_2.out t202 p203 q203
  have hw203_4 := hx203_4
  have hw203_3 := hx203_3
  have hw203_2 := hx203_2
  have hw203_1 := hx203_1
  have hw203_0 := hx203_0
  cases e203
  replace hx203_0 := Xm HB hx203_0
  replace hx203_1 := Xm HB hx203_1
  replace hx203_2 := Xm HB hx203_2
  replace hx203_3 := Xm HB hx203_3
  replace hx203_4 := Xm HB hx203_4
  have HR203_4 := Aside0.mk hi203_4
  have HC203_4 := Aside0.mk hl203_4
  clear hi203_4 hl203_4
  replace p203 := eq_true p203
  replace q203 := eq_true q203
  refine start_ (n := 9) (S := fun w' => w'.cell? ⟨gb198, 0, none⟩ = some (.int .i64 a0_0) ∧ w'.cell? ⟨gb198, 1, none⟩ = some (.int .i64 a0_1) ∧ w'.cell? ⟨gb198, 2, none⟩ = some (.slice (some ad203) l0_2.length c0_2) ∧ w'.cell? (ad203.add ((t202).toNat * 5)) = some (.int .i64 ((rd_T88 l0_2 t202).f0)) ∧ w'.cell? ⟨(ad203.add ((t202).toNat * 5)).block, (ad203.add ((t202).toNat * 5)).off + 1, none⟩ = some (.int .i64 ((rd_T88 l0_2 t202).f1)) ∧ w'.cell? ⟨(ad203.add ((t202).toNat * 5)).block, (ad203.add ((t202).toNat * 5)).off + 2, none⟩ = some (.int .i64 ((rd_T88 l0_2 t202).f2)) ∧ w'.cell? ⟨(ad203.add ((t202).toNat * 5)).block, (ad203.add ((t202).toNat * 5)).off + 3, none⟩ = some (.string ((rd_T88 l0_2 t202).f3)) ∧ w'.cell? ⟨(ad203.add ((t202).toNat * 5)).block, (ad203.add ((t202).toNat * 5)).off + 4, none⟩ = some (.slice A203_4 ((rd_T88 l0_2 t202).f4).length c203_4)) (ds := []) #[false, false, false, false, false, false, false, false, false] (by kernel_rfl) rfl rfl ⟨(blk_cell BK198.out 0).trans rfl, (blk_cell BK198.out 1).trans rfl, (blk_cell BK198.out 2).trans rfl, Xn hw203_0, Xn hw203_1, Xn hw203_2, Xn hw203_3, Xn hw203_4⟩ (fun hHeld => ?_); refine with_tabW spec_l02Order.tab2 spec_l02Order.bits2 (fun HT_ HW_ => ?_)
  generalize w7.drew = w9 at HO201 BK198 HB HR203_4 hx203_0 hx203_1 hx203_2 hx203_3 hx203_4 hHeld ⊢
  refine Xpu 0 10 (XW.bs 9 1) HT_.out ?_
  refine Xpu 3 13 (XW.bs 9 9) HT_.out ?_
  refine Xta 1 11 (XW.bs 9 11) HT_.out HW_.out hHeld ?_
  refine Xta 2 12 (XW.bs 9 15) HT_.out HW_.out hHeld ?_
  refine one_ (i := 4) (N := some 14) (XW.bs 9 31) rfl rfl (one_of HT_.out (by kernel_rfl)) (by decide) (fun K hK => ?_)
  refine goes_ Try.func69 (by kernel_rfl) rfl #[.agg #[.int .i64 a0_0, .int .i64 a0_1, .slice (some ad203) l0_2.length c0_2], .int .i64 a1] (by rfl) rfl rfl (by (try simp only [List.map_toArray, List.map_cons, List.map_nil]); first | done | rfl | (simp only [List.length_drop, List.length_take]; rfl)) ?_
  with_reducible refine (spec_l02At.calls k a0_0 a0_1 _ _ l0_2 a1 t202 _ ?side1 ?side2 A3.out).mono ?_
  (case side1 => exact Xc HR0_2)
  (case side2 => exact HC0_2.out)
  rintro e w10 ⟨rfl, hb⟩
  refine ⟨_, rfl, ?_⟩
  replace HO201 := Aside0.mk (Kd.R_below (Xq HO201) hb)
  replace BK198 := Xbb BK198 hb
  replace HB := Aside0.mk (below_step Xi hb)
  (try clear hb)
  (try clear hb2)
  (try clear hk)
  (try clear hi)
  refine hK.out _ _ ⟨(blk_cell BK198.out 0).trans rfl, (blk_cell BK198.out 1).trans rfl, (blk_cell BK198.out 2).trans rfl, Xn hw203_0, Xn hw203_1, Xn hw203_2, Xn hw203_3, Xn hw203_4⟩ (fun hHeld => ?_)
  clear hK K
  refine Xno ?_
  refine Xpu 5 15 (XW.bs 9 63) HT_.out ?_
  refine Xpu 6 16 (XW.bs 9 127) HT_.out ?_
  refine Xta 7 17 (XW.bs 9 255) HT_.out HW_.out hHeld ?_
  refine Xpu 8 6 (XW.bs 9 511) HT_.out ?_
  refine done_ (done_of HT_.out (by kernel_rfl)) ?_
  try go_wp2_with (fail)
  go_loopg [5, 7] k (fun kq v5 v7 w' => ∃ (x5_1 : List Int) (x7_1 : Int), v7 = .int .i64 x7_1 ∧ Aside0 (spec_l02Order.l0 kq x5_1 ((rd_T88 l0_2 t202).f4) x7_1 a0_0 a0_1 l0_2 = some r) ∧ Aside0 (kq ≤ k) ∧ Aside0 (Kd.R (Kd.int .i64) 3 w' w.heap.size (fun _ => True) v5 x5_1) ∧ Aside0 (w'.heap[gb198]? = some (.cells #[.int .i64 a0_0, .int .i64 a0_1, (.slice (some ad203) l0_2.length c0_2)] 29 (0, 0))) ∧ Aside0 (Below w.heap.size w w'))
  case atStart => exact ⟨(y199), (0), Xr, H', Xkr, (Xp' HO201), (Xp BK198), ⟨Xi⟩⟩
  case round =>
   clear H'
   (try clear c4); (try clear c4b0); (try clear c5); (try clear c5b0); (try clear hx203_0); (try clear hx203_1); (try clear hx203_2); (try clear hx203_3); (try clear hx203_4); (try clear p203); (try clear q203)
   obtain ⟨x5_1, x7_1, rfl, HA, HK1, HO_5, BK198, HB⟩ := hrel
   cases gk with
   | zero => cases HA.out
   | succ k1 =>
    have H := HA.out
    clear HA
    simp only [spec_l02Order.l0] at H
    obtain ⟨c11b0, H⟩ | ⟨c11b0, H⟩ := Xit H
    ·obtain ⟨c12b0, H⟩ := Xid H
     obtain ⟨t205, A13, H⟩ := Xbi H
     (try dsimp only at H)
     obtain ⟨c14, H⟩ := Xif H
     have LMc14 := Aside0.mk c14
     clear c14
     obtain ⟨y208, hy208⟩ : ∃ y_ : List Int, y_ = (x5_1 ++ t205) := ⟨_, rfl⟩
     replace H : (spec_l02Order.l0 k1 y208 ((rd_T88 l0_2 t202).f4) (wrap64 (x7_1 + 1)) a0_0 a0_1 l0_2) = some r := by first | (rw [hy208]; with_reducible exact H) | (have H2_ := (Option.bind_some _ _).symm.trans H; rw [hy208]; with_reducible exact H2_) | (have H2_ := (Option.bind_some _ _).symm.trans H; with_reducible exact H2_) | with_reducible exact H | (rw [hy208]; exact H) | exact H
     have Ny208 := Aside0.mk hy208
     clear hy208
     have H' := Aside0.mk H
     clear H
     try go_wp2_with (fail)
     replace HO_5 := Aside0.mk (Kd.R_drew HO_5.out)
     replace BK198 := Aside0.mk (blk_drew BK198.out)
     replace HB := Aside0.mk (below_drew1 HB.out)
     have p204 : 0 ≤ (x7_1 : Int) := of_decide_eq_true Xa
     have q204 : x7_1 < (((rd_T88 l0_2 t202).f4).length : Int) := of_decide_eq_true Xa
     obtain ⟨ad204, e204, hx204_0⟩ := Kd.at_int HR203_4.out x7_1 p204 q204
     have hw204_0 := hx204_0
     cases e204
     replace hx204_0 := Xm HB hx204_0
     replace p204 := eq_true p204
     replace q204 := eq_true q204
     refine start_ (n := 9) (S := fun w' => w'.cell? ⟨gb198, 0, none⟩ = some (.int .i64 a0_0) ∧ w'.cell? ⟨gb198, 1, none⟩ = some (.int .i64 a0_1) ∧ w'.cell? ⟨gb198, 2, none⟩ = some (.slice (some ad203) l0_2.length c0_2) ∧ w'.cell? (ad204.add (x7_1).toNat) = some (.int .i64 (rd ((rd_T88 l0_2 t202).f4) x7_1))) (ds := []) #[false, false, false, false, false, false, false, false, false] (by kernel_rfl) rfl rfl ⟨(blk_cell BK198.out 0).trans rfl, (blk_cell BK198.out 1).trans rfl, (blk_cell BK198.out 2).trans rfl, Xn hw204_0⟩ (fun hHeld => ?_); refine with_tabW spec_l02Order.tab6 spec_l02Order.bits6 (fun HT_ HW_ => ?_)
     generalize wr.drew = w15 at HO_5 BK198 HB hx204_0 hHeld ⊢
     refine Xpu 0 24 (XW.bs 9 1) HT_.out ?_
     refine Xpu 2 26 (XW.bs 9 5) HT_.out ?_
     refine Xpu 3 27 (XW.bs 9 13) HT_.out ?_
     refine Xpu 4 28 (XW.bs 9 29) HT_.out ?_
     refine Xta 1 25 (XW.bs 9 31) HT_.out HW_.out hHeld ?_
     refine Xta 5 29 (XW.bs 9 63) HT_.out HW_.out hHeld ?_
     refine one_ (i := 6) (N := some 30) (XW.bs 9 127) rfl rfl (one_of HT_.out (by kernel_rfl)) (by decide) (fun K hK => ?_)
     refine goes_ Try.func128 (by kernel_rfl) rfl #[.agg #[.int .i64 a0_0, .int .i64 a0_1, .slice (some ad203) l0_2.length c0_2], .int .i64 (rd ((rd_T88 l0_2 t202).f4) x7_1)] (by rfl) rfl rfl (by (try simp only [List.map_toArray, List.map_cons, List.map_nil]); first | done | rfl | (simp only [List.length_drop, List.length_take]; rfl)) ?_
     with_reducible refine (ih k1 (by have := HK1.out; omega) a0_0 a0_1 _ _ l0_2 (rd ((rd_T88 l0_2 t202).f4) x7_1) t205 _ ?side1 ?side2 A13.out).mono ?_
     (case side1 => exact Xc HR0_2)
     (case side2 => exact HC0_2.out)
     rintro e w16 ⟨v206, rfl, ho0, hb⟩
     refine ⟨_, rfl, ?_⟩
     have HO207 := Aside0.mk (Kd.R_lower (Kd.R_new' ho0 (Kd.R_lt (Xq HO_5))) (below_size Xi))
     replace HO_5 := Aside0.mk (Kd.R_elder' (Xq HO_5) (Kd.R_base ho0) hb)
     replace BK198 := Xbb BK198 hb
     replace HB := Aside0.mk (below_step Xi hb)
     (try clear hb)
     (try clear hb2)
     (try clear hk)
     (try clear hi)
     (try clear ho0)
     obtain ⟨Ao18, co18, eo18⟩ := Kd.R_slice HO207.out
     (first | subst eo18 | (injection eo18 with f1_ f2_ f3_; have f4_ := f1_.symm; have f5_ := f3_.symm; clear f1_ f2_ f3_; subst f4_; subst f5_))
     refine hK.out _ _ ⟨(blk_cell BK198.out 0).trans rfl, (blk_cell BK198.out 1).trans rfl, (blk_cell BK198.out 2).trans rfl, Xn hw204_0⟩ (fun hHeld => ?_)
     clear hK K
     refine Xno ?_
     refine one_ (i := 7) (N := some 31) (XW.bs 9 255) rfl rfl (one_of HT_.out (by kernel_rfl)) (by decide) (fun K hK => ?_)
     refine Kd.R_append_rows_step (Kd.int .i64) (w0 := w) w.heap.size (by rfl) (.tmp 24) (.tmp 30) 34 3 (.int .i64 0) 8 rfl Try.underlying34 info3 rfl (by decide) (by omega) u5 x5_1 t205 _ _ _ (fun k_ => some k_ ≠ (.slice Ao18 t205.length co18 : Value).ownBlock) (fun _ => False) rfl rfl ?aO ?aR (fun _ _ h => h) (fun _ h => h.elim) ?aF ?aB ?aS ?aL ?_
     (case aR => repeat (first | exact (Kd.R_reads' HO207.out).2.2 | (with_reducible first | refine Kd.C_alloc ?_ _ | refine Kd.C_drewN ?_ _ | refine Kd.C_drew ?_)))
     (case aB => exact Xi)
     (case aF => exact (fun k_ hk => Kd.fresh' (Kd.R_lt (Xq HO207)) k_ hk))
     (case aO => exact (by (with_reducible repeat (first | apply Kd.R_alloc | apply Kd.R_drewN | apply Kd.R_drew)); exact Kd.R_mono HO_5.out (fun _ hk => hk.2)))
     (case aS => exact (below_size Xi))
     (case aL => have := LMc14.out; omega)
     intro v209 w17 ho hb hg hat
     rw [← Ny208.out] at ho
     replace BK198 := Aside0.mk (blk_grown (g := gb198) (o := .cells #[.int .i64 a0_0, .int .i64 a0_1, .slice (some ad203) l0_2.length c0_2] 29 (0, 0)) (Xq' BK198) hg (Kd.R_ne HO_5.out BK198.out (by decide)))
     replace HO207 := Aside0.mk (Kd.R_after (ok := (fun _ => True)) (Xq HO207) hg hat)
     replace HB := Aside0.mk (hb)
     have HO210 := Aside0.mk (ho)
     clear HO_5
     clear ho hb hg hat
     refine hK.out _ _ ⟨(blk_cell BK198.out 0).trans rfl, (blk_cell BK198.out 1).trans rfl, (blk_cell BK198.out 2).trans rfl, Xn hw204_0⟩ (fun hHeld => ?_)
     clear hK K
     refine Xno ?_
     refine Xpu 8 5 (XW.bs 9 511) HT_.out ?_
     refine done_ (done_of HT_.out (by kernel_rfl)) ?_
     try go_wp2_with (fail)
     go_roundg k1
     case measure => have := HK1.out; omega
     case rel => exact ⟨(y208), (wrap64 (x7_1 + 1)), Xr, H', Xk1, ⟨by (with_reducible repeat (first | apply Kd.R_alloc | apply Kd.R_drewN | apply Kd.R_drew)); exact Kd.R_mono HO210.out (fun _ hk => trivial)⟩, (Xp BK198), ⟨Xi⟩⟩
    ·obtain rfl := Option.some.inj H
     go_wp2
     go_ret
     exact ⟨_, Xe, Xq HO_5, Xi⟩
 ·exact absurd H (by simp)

/-! ### spec_l02OwnNode: function 170 -/
def spec_l02OwnNode.f (a0_0 : Int) (a0_1 : Int) (a0_2 : Int) (a0_3 : ByteArray) (l0_4 : List Int) : Option (Int × Int × Int × ByteArray × List Int) := (some (([] : List Int) : List Int)).bind fun y213 => (if y213.length + l0_4.length < 17592186044416 then (some (a0_0, a0_1, a0_2, a0_3, (y213 ++ l0_4))) else (none))
set_option maxHeartbeats 8000000 in
set_option maxRecDepth 100000 in
theorem spec_l02OwnNode.calls (a0_0 : Int) (a0_1 : Int) (a0_2 : Int) (a0_3 : ByteArray) (A0_4 : Option Addr) (c0_4 : Nat) (l0_4 : List Int) (r1 : Int) (r2 : Int) (r3 : Int) (r4 : ByteArray) (r5 : List Int) (w : World) (hr0_4 : Kd.C (Kd.int .i64) w A0_4 l0_4.length l0_4) (hc0_4 : l0_4.length ≤ c0_4) (h : spec_l02OwnNode.f a0_0 a0_1 a0_2 a0_3 l0_4 = some (r1, r2, r3, r4, r5)) :
  Calls Try.prog 170 #[.agg #[.int .i64 a0_0, .int .i64 a0_1, .int .i64 a0_2, .string a0_3, .slice A0_4 l0_4.length c0_4]] w fun e w' => ∃ v4_ : Value, e = .returned (.agg #[.int .i64 r1, .int .i64 r2, .int .i64 r3, .string r4, v4_]) ∧ Kd.R (Kd.int .i64) 3 w' w.heap.size (fun _ => True) v4_ r5 ∧ Below w.heap.size w w' := by
 have hu88 := Try.underlying88
 have HR0_4 := Aside0.mk hr0_4
 have HC0_4 := Aside0.mk hc0_4
 clear hr0_4 hc0_4
 have HB := Aside0.mk (Below.refl w.heap.size w)
 have H : ((some (([] : List Int) : List Int)).bind fun y213 => (if y213.length + l0_4.length < 17592186044416 then (some (a0_0, a0_1, a0_2, a0_3, (y213 ++ l0_4))) else (none))) = some (r1, r2, r3, r4, r5) := h
 clear h
 obtain ⟨y213, hy213⟩ : ∃ y_ : List Int, y_ = (([] : List Int)) := ⟨_, rfl⟩
 replace H : (if y213.length + l0_4.length < 17592186044416 then (some (a0_0, a0_1, a0_2, a0_3, (y213 ++ l0_4))) else (none)) = some (r1, r2, r3, r4, r5) := by first | (rw [hy213]; with_reducible exact H) | (have H2_ := (Option.bind_some _ _).symm.trans H; rw [hy213]; with_reducible exact H2_) | (have H2_ := (Option.bind_some _ _).symm.trans H; with_reducible exact H2_) | with_reducible exact H | (rw [hy213]; exact H) | exact H
 have Ny213 := Aside0.mk hy213
 clear hy213
 obtain ⟨c2, H⟩ | ⟨c2, H⟩ := Xiu H
 ·have LMc2 := Aside0.mk c2
  clear c2
  obtain ⟨y216, hy216⟩ : ∃ y_ : List Int, y_ = (y213 ++ l0_4) := ⟨_, rfl⟩
  replace H : (some (a0_0, a0_1, a0_2, a0_3, y216)) = some (r1, r2, r3, r4, r5) := by first | (rw [hy216]; with_reducible exact H) | (have H2_ := (Option.bind_some _ _).symm.trans H; rw [hy216]; with_reducible exact H2_) | (have H2_ := (Option.bind_some _ _).symm.trans H; with_reducible exact H2_) | with_reducible exact H | (rw [hy216]; exact H) | exact H
  have Ny216 := Aside0.mk hy216
  clear hy216
  simp only [Option.some.injEq, Prod.mk.injEq] at H
  obtain ⟨rfl, rfl, rfl, rfl, rfl⟩ := H
  go_enter Try.func170, Try.ntmps170
  go_wp2_with (first | ((with_reducible refine gate_dst (N := 1) rfl ?_); refine Xbox 1 #[.int .i64 a0_0, .int .i64 a0_1, .int .i64 a0_2, .string a0_3, .slice A0_4 l0_4.length c0_4] 88 ?_; intro gb211 hg w3 hbox hb; have BK211 := Aside0.mk (hbox); have GE211 := Xge hg Xi; replace HB := Aside0.mk (below_step Xi hb); clear hb hbox hg) | ((with_reducible refine gate_dst (N := 2) rfl ?_); refine Xbox 2 #[.int .i64 0, .int .i64 0, .int .i64 0, .string (⟨#[]⟩ : ByteArray), .slice none 0 0] 88 ?_; intro gb212 hg w4 hbox hb; have BK212 := Aside0.mk (hbox); have GE212 := Xge hg Xi; replace HB := Aside0.mk (below_step Xi hb); have NB211_212 := Xnb hg BK211; have NB212_211 := Xns NB211_212; replace BK211 := Xbb BK211 hb; clear hb hbox hg) | ((with_reducible refine gate_dst (N := 3) rfl ?_); refine Kd.R_lit (Kd.int .i64) _ 3 ?hg (N := 3) ?hd (xs := ([] : List Int)) (inner := []) (ok := fun _ => True) (okp := fun _ => True) ?hr ?hp (fun _ hk => hk) trivial (Below.refl _ _) (Nat.le_refl _) (by simp) ?_; (case hd => rfl); (case hg => rfl); (case hr => first | (go_simp; done) | (go_simp; rfl)); (case hp => exact (Reps.none _ _)); intro v214 w5 ho6 hb hg_ hnew_; clear hg_ hnew_; (first | rw [← Ny213.out] at ho6 | (simp only [Int.reduceToNat] at ho6; rw [← Ny213.out] at ho6)); have HO215 := Aside0.mk (Kd.R_lower ho6 (below_size Xi)); replace BK211 := Xbb BK211 hb; replace BK212 := Xbb BK212 hb; replace HB := Aside0.mk (below_step Xi hb); clear hb ho6; have hnb7 := NB211_212.out; have hnc7 := NB212_211.out; obtain ⟨hcz8_0, hcz8_1, hcz8_2, hcz8_3, hcz8_4⟩ := Xc5 BK211; obtain ⟨hfz8_0, hfz8_1, hfz8_2, hfz8_3, hfz8_4⟩ := Xf5 BK211) | ((with_reducible refine gate_builtin (b := .append) (xs := #[.tmp 3, .tmp 5]) rfl ?_); at_builtin; refine Kd.R_append_rows (Kd.int .i64) (w0 := w) w.heap.size rfl (.tmp 3) (.tmp 5) 34 3 (.int .i64 0) 8 rfl Try.underlying34 info3 rfl (by decide) (by omega) v214 y213 l0_4 _ _ _ (fun _ => True) (fun _ => False) rfl rfl ?aO ?aR (fun _ _ h => h) (fun _ h => h.elim) ?aF ?aB ?aS ?aL ?_; (case aR => repeat (first | exact (Kd.C_below HR0_4.out HB.out) | (with_reducible first | refine Kd.C_alloc ?_ _ | refine Kd.C_drewN ?_ _ | refine Kd.C_drew ?_))); (case aB => exact Xi); (case aF => exact (fun _ _ => trivial)); (case aO => exact (Xq HO215)); (case aS => exact (below_size Xi)); (case aL => have := LMc2.out; omega); intro v217 w9 ho hb hg hat; rw [← Ny216.out] at ho; replace BK211 := Aside0.mk (blk_grown (g := gb211) (o := .cells #[.int .i64 a0_0, .int .i64 a0_1, .int .i64 a0_2, .string a0_3, .slice A0_4 l0_4.length c0_4] 88 (0, 0)) (Xq' BK211) hg (Kd.R_ne HO215.out BK211.out (by decide))); replace BK212 := Aside0.mk (blk_grown (g := gb212) (o := .cells #[.int .i64 0, .int .i64 0, .int .i64 0, .string (⟨#[]⟩ : ByteArray), .slice none 0 0] 88 (0, 0)) (Xq' BK212) hg (Kd.R_ne HO215.out BK212.out (by decide))); replace HB := Aside0.mk (hb); have HO218 := Aside0.mk (ho); clear HO215; clear ho hb hg hat; obtain ⟨Ao10, co10, eo10⟩ := Kd.R_slice HO218.out; subst eo10; obtain ⟨hcz11_0, hcz11_1, hcz11_2, hcz11_3, hcz11_4⟩ := Xc5 BK211; obtain ⟨hfz11_0, hfz11_1, hfz11_2, hfz11_3, hfz11_4⟩ := Xf5 BK211; obtain ⟨hcz12_0, hcz12_1, hcz12_2, hcz12_3, hcz12_4⟩ := Xc5 BK212; obtain ⟨hfz12_0, hfz12_1, hfz12_2, hfz12_3, hfz12_4⟩ := Xf5 BK212) | ((with_reducible refine gate_store (t := 88) (p := 2) rfl ?_); refine store_event (t := 88) (p := 2) (v := ?vo_w13) (w1 := ((((((w9.setCell ⟨gb211, 4, none⟩ (.slice Ao10 y216.length co10)).setCell ⟨gb212, 0, none⟩ (.int .i64 a0_0)).setCell ⟨gb212, 1, none⟩ (.int .i64 a0_1)).setCell ⟨gb212, 2, none⟩ (.int .i64 a0_2)).setCell ⟨gb212, 3, none⟩ (.string a0_3)).setCell ⟨gb212, 4, none⟩ (.slice Ao10 y216.length co10))) ?hg ?ho ?hn ?hr ?_; (case ho => rfl); (case hg => rfl); (case hn => rfl); (case hr => first | (go_simp; done) | (go_simp; rfl)); intro w13 hw; have n0_ : Aside0 (Kd.R (Kd.int .i64) 3 w13 w.heap.size (fun _ => True) (.slice Ao10 y216.length co10) y216) := ⟨(by rw [hw]; exact (by (with_reducible repeat (first | apply Kd.R_alloc | apply Kd.R_drewN | apply Kd.R_drew)); exact Kd.R_mono (Kd.R_far (p := ⟨gb212, 4, none⟩) (Kd.R_far (p := ⟨gb212, 3, none⟩) (Kd.R_far (p := ⟨gb212, 2, none⟩) (Kd.R_far (p := ⟨gb212, 1, none⟩) (Kd.R_far (p := ⟨gb212, 0, none⟩) (Kd.R_far (p := ⟨gb211, 4, none⟩) (Kd.R_types (Kd.R_types HO218.out BK211.out (by decide)) BK212.out (by decide)) (fun _ hk => hk.1.2) (.slice Ao10 y216.length co10)) (fun _ hk => hk.2) (.int .i64 a0_0)) (fun _ hk => hk.2) (.int .i64 a0_1)) (fun _ hk => hk.2) (.int .i64 a0_2)) (fun _ hk => hk.2) (.string a0_3)) (fun _ hk => hk.2) (.slice Ao10 y216.length co10)) (fun _ hk => trivial)))⟩; have n1_ : Aside0 (w13.heap[gb211]? = some (.cells #[.int .i64 a0_0, .int .i64 a0_1, .int .i64 a0_2, .string a0_3, .slice Ao10 y216.length co10] 88 (0, 0))) := ⟨(by rw [hw]; exact (by (with_reducible repeat (first | refine blk_drewN ?_ _ | refine blk_drew ?_ | refine blk_alloc ?_ _)); refine blk_far ?_ NB211_212.out _; (with_reducible repeat (first | refine blk_drewN ?_ _ | refine blk_drew ?_ | refine blk_alloc ?_ _)); refine blk_far ?_ NB211_212.out _; (with_reducible repeat (first | refine blk_drewN ?_ _ | refine blk_drew ?_ | refine blk_alloc ?_ _)); refine blk_far ?_ NB211_212.out _; (with_reducible repeat (first | refine blk_drewN ?_ _ | refine blk_drew ?_ | refine blk_alloc ?_ _)); refine blk_far ?_ NB211_212.out _; (with_reducible repeat (first | refine blk_drewN ?_ _ | refine blk_drew ?_ | refine blk_alloc ?_ _)); refine blk_far ?_ NB211_212.out _; (with_reducible repeat (first | refine blk_drewN ?_ _ | refine blk_drew ?_ | refine blk_alloc ?_ _)); refine blk_put (cs := #[.int .i64 a0_0, .int .i64 a0_1, .int .i64 a0_2, .string a0_3, .slice A0_4 l0_4.length c0_4]) ?_ 4 _ rfl; (with_reducible repeat (first | refine blk_drewN ?_ _ | refine blk_drew ?_ | refine blk_alloc ?_ _)); exact BK211.out))⟩; have n2_ : Aside0 (w13.heap[gb212]? = some (.cells #[.int .i64 a0_0, .int .i64 a0_1, .int .i64 a0_2, .string a0_3, .slice Ao10 y216.length co10] 88 (0, 0))) := ⟨(by rw [hw]; exact (by (with_reducible repeat (first | refine blk_drewN ?_ _ | refine blk_drew ?_ | refine blk_alloc ?_ _)); refine blk_put (cs := #[.int .i64 a0_0, .int .i64 a0_1, .int .i64 a0_2, .string a0_3, .slice none 0 0]) ?_ 4 _ rfl; (with_reducible repeat (first | refine blk_drewN ?_ _ | refine blk_drew ?_ | refine blk_alloc ?_ _)); refine blk_put (cs := #[.int .i64 a0_0, .int .i64 a0_1, .int .i64 a0_2, .string (⟨#[]⟩ : ByteArray), .slice none 0 0]) ?_ 3 _ rfl; (with_reducible repeat (first | refine blk_drewN ?_ _ | refine blk_drew ?_ | refine blk_alloc ?_ _)); refine blk_put (cs := #[.int .i64 a0_0, .int .i64 a0_1, .int .i64 0, .string (⟨#[]⟩ : ByteArray), .slice none 0 0]) ?_ 2 _ rfl; (with_reducible repeat (first | refine blk_drewN ?_ _ | refine blk_drew ?_ | refine blk_alloc ?_ _)); refine blk_put (cs := #[.int .i64 a0_0, .int .i64 0, .int .i64 0, .string (⟨#[]⟩ : ByteArray), .slice none 0 0]) ?_ 1 _ rfl; (with_reducible repeat (first | refine blk_drewN ?_ _ | refine blk_drew ?_ | refine blk_alloc ?_ _)); refine blk_put (cs := #[.int .i64 0, .int .i64 0, .int .i64 0, .string (⟨#[]⟩ : ByteArray), .slice none 0 0]) ?_ 0 _ rfl; (with_reducible repeat (first | refine blk_drewN ?_ _ | refine blk_drew ?_ | refine blk_alloc ?_ _)); refine blk_far ?_ NB212_211.out _; (with_reducible repeat (first | refine blk_drewN ?_ _ | refine blk_drew ?_ | refine blk_alloc ?_ _)); exact BK212.out))⟩; have n3_ : Aside0 (Below w.heap.size w w13) := ⟨(by rw [hw]; exact Xi)⟩; clear hw; clear HO218; clear BK211; clear BK212; clear HB; have HO218 := n0_; have BK211 := n1_; have BK212 := n2_; have HB := n3_; clear n0_ n1_ n2_ n3_))
  refine bodyPost_ret (results_cell_row rfl _ _ gb212 88 #[.int .i64 a0_0, .int .i64 a0_1, .int .i64 a0_2, .string a0_3, .slice Ao10 y216.length co10] (0, 0) _ rfl (Xq' BK212) Try.underlying88 rfl (by kernel_rfl)) rfl ?_
  exact ⟨_, Xe, Xq HO218, Xi⟩
 ·exact absurd H (by simp)

/-! ### spec_l02Own: function 130 -/
def spec_l02Own.l0 : Nat → List (S88) → Int → Int → Int → List (S88) → Option (Int × Int × (List (S88)))
 | 0, _, _, _, _, _ => none
 | k + 1, x3, x4, x220000, x220001, x220002 => if x4 < (x220002.length : Int) then (if 0 ≤ x4 then ((spec_l02OwnNode.f ((rd_T88 x220002 x4).f0) ((rd_T88 x220002 x4).f1) ((rd_T88 x220002 x4).f2) ((rd_T88 x220002 x4).f3) ((rd_T88 x220002 x4).f4)).bind fun bt225 => (if x3.length < 2199023255552 then (spec_l02Own.l0 k (x3 ++ [(⟨bt225.1, bt225.2.1, bt225.2.2.1, bt225.2.2.2.1, bt225.2.2.2.2⟩ : S88)]) (wrap64 (x4 + 1)) x220000 x220001 x220002) else (none))) else (none)) else (some (x220000, x220001, x3))
def spec_l02Own.f (k : Nat) (a0_0 : Int) (a0_1 : Int) (l0_2 : List (S88)) : Option (Int × Int × (List (S88))) := spec_l02Own.l0 k (([] : List (S88))) 0 a0_0 a0_1 l0_2
set_option maxHeartbeats 8000000 in
set_option maxRecDepth 100000 in
theorem spec_l02Own.calls (k : Nat) (a0_0 : Int) (a0_1 : Int) (A0_2 : Option Addr) (c0_2 : Nat) (l0_2 : List (S88)) (r1 : Int) (r2 : Int) (r3 : List (S88)) (w : World) (hr0_2 : Kd.C k88 w A0_2 l0_2.length l0_2) (hc0_2 : l0_2.length ≤ c0_2) (h : spec_l02Own.f k a0_0 a0_1 l0_2 = some (r1, r2, r3)) :
  Calls Try.prog 130 #[.agg #[.int .i64 a0_0, .int .i64 a0_1, .slice A0_2 l0_2.length c0_2]] w fun e w' => ∃ v2_ : Value, e = .returned (.agg #[.int .i64 r1, .int .i64 r2, v2_]) ∧ Kd.S k88 88 w' w.heap.size (fun _ => True) v2_ r3 ∧ Below w.heap.size w w' := by
 have hu29 := Try.underlying29
 have hu88 := Try.underlying88
 have HR0_2 := Aside0.mk hr0_2
 have HC0_2 := Aside0.mk hc0_2
 clear hr0_2 hc0_2
 have HB := Aside0.mk (Below.refl w.heap.size w)
 have H : (spec_l02Own.l0 k (([] : List (S88))) 0 a0_0 a0_1 l0_2) = some (r1, r2, r3) := h
 clear h
 obtain ⟨y221, hy221⟩ : ∃ y_ : List (S88), y_ = (([] : List (S88))) := ⟨_, rfl⟩
 replace H : (spec_l02Own.l0 k y221 0 a0_0 a0_1 l0_2) = some (r1, r2, r3) := by first | (rw [hy221]; with_reducible exact H) | (have H2_ := (Option.bind_some _ _).symm.trans H; rw [hy221]; with_reducible exact H2_) | (have H2_ := (Option.bind_some _ _).symm.trans H; with_reducible exact H2_) | with_reducible exact H | (rw [hy221]; exact H) | exact H
 have Ny221 := Aside0.mk hy221
 clear hy221
 have H' := Aside0.mk H
 clear H
 go_enter Try.func130, Try.ntmps130
 go_wp2_with (first | ((with_reducible refine gate_dst (N := 1) rfl ?_); refine Xbox 1 #[.int .i64 a0_0, .int .i64 a0_1, .slice A0_2 l0_2.length c0_2] 29 ?_; intro gb219 hg w2 hbox hb; have BK219 := Aside0.mk (hbox); have GE219 := Xge hg Xi; replace HB := Aside0.mk (below_step Xi hb); clear hb hbox hg) | ((with_reducible refine gate_dst (N := 2) rfl ?_); refine Xbox 2 #[.int .i64 0, .int .i64 0, .slice none 0 0] 29 ?_; intro gb220 hg w3 hbox hb; have BK220 := Aside0.mk (hbox); have GE220 := Xge hg Xi; replace HB := Aside0.mk (below_step Xi hb); have NB219_220 := Xnb hg BK219; have NB220_219 := Xns NB219_220; replace BK219 := Xbb BK219 hb; clear hb hbox hg) | ((with_reducible refine gate_dst (N := 5) rfl ?_); refine Kd.S_lit k88 _ 88 ?hg (N := 5) ?hd (xs := ([] : List (S88))) (inner := []) (ok := fun _ => True) (okp := fun _ => True) ?hr ?hp (fun _ hk => hk) trivial (Below.refl _ _) (Nat.le_refl _) (by simp) ?_; (case hd => rfl); (case hg => rfl); (case hr => first | (go_simp; done) | (go_simp; rfl)); (case hp => exact (Reps.none _ _)); intro v222 w4 ho5 hb hg_ hnew_; clear hg_ hnew_; (first | rw [← Ny221.out] at ho5 | (simp only [Int.reduceToNat] at ho5; rw [← Ny221.out] at ho5)); have HO223 := Aside0.mk (Kd.S_lower ho5 (below_size Xi)); replace BK219 := Xbb BK219 hb; replace BK220 := Xbb BK220 hb; replace HB := Aside0.mk (below_step Xi hb); clear hb ho5))
 go_loopg [3, 4] k (fun kq v3 v4 w' => ∃ (x3_1 : List (S88)) (x4_1 : Int), v4 = .int .i64 x4_1 ∧ Aside0 (spec_l02Own.l0 kq x3_1 x4_1 a0_0 a0_1 l0_2 = some (r1, r2, r3)) ∧ Aside0 (kq ≤ k) ∧ Aside0 (Kd.S k88 88 w' w.heap.size (fun _ => True) v3 x3_1) ∧ Aside0 (w'.heap[gb219]? = some (.cells #[.int .i64 a0_0, .int .i64 a0_1, (.slice A0_2 l0_2.length c0_2)] 29 (0, 0))) ∧ Aside0 (w'.heap[gb220]? = some (.cells #[.int .i64 0, .int .i64 0, (.slice none 0 0)] 29 (0, 0))) ∧ Aside0 (Below w.heap.size w w'))
 case atStart => exact ⟨(y221), (0), Xr, H', Xkr, (Xp' HO223), (Xp BK219), (Xp BK220), ⟨Xi⟩⟩
 case round =>
  clear H'
  obtain ⟨x3_1, x4_1, rfl, HA, HK1, HO_3, BK219, BK220, HB⟩ := hrel
  cases gk with
  | zero => cases HA.out
  | succ k1 =>
   have H := HA.out
   clear HA
   simp only [spec_l02Own.l0] at H
   obtain ⟨c6b0, H⟩ | ⟨c6b0, H⟩ := Xit H
   ·obtain ⟨c7b0, H⟩ := Xid H
    replace H := Option.bind_eq_some_iff.mp H
    obtain ⟨⟨t225, t226, t227, t228, t229⟩, A80, H⟩ := H
    (try dsimp only at H)
    have A8 := Aside0.mk A80
    clear A80
    obtain ⟨c9, H⟩ := Xif H
    have LMc9 := Aside0.mk c9
    clear c9
    obtain ⟨y232, hy232⟩ : ∃ y_ : List (S88), y_ = (x3_1 ++ [(⟨t225, t226, t227, t228, t229⟩ : S88)]) := ⟨_, rfl⟩
    replace H : (spec_l02Own.l0 k1 y232 (wrap64 (x4_1 + 1)) a0_0 a0_1 l0_2) = some (r1, r2, r3) := by first | (rw [hy232]; with_reducible exact H) | (have H2_ := (Option.bind_some _ _).symm.trans H; rw [hy232]; with_reducible exact H2_) | (have H2_ := (Option.bind_some _ _).symm.trans H; with_reducible exact H2_) | with_reducible exact H | (rw [hy232]; exact H) | exact H
    have Ny232 := Aside0.mk hy232
    clear hy232
    have H' := Aside0.mk H
    clear H
    have hnb10 := NB219_220.out
    have hnc10 := NB220_219.out
    obtain ⟨hcz11_0, hcz11_1, hcz11_2⟩ := Xc3 BK219
    obtain ⟨hfz11_0, hfz11_1, hfz11_2⟩ := Xf3 BK219
    obtain ⟨ad224, A224_4, c224_4, e224, p224, q224, hx224_0, hx224_1, hx224_2, hx224_3, hx224_4, HC224_4, HR224_4⟩ := at_B88 HR0_2 x4_1 Xa Xa HB
    cases e224
    go_wp2_with (first | ((with_reducible refine gate_callee (f := 170) rfl ?_); refine Xgo 19 Try.func170 #[.agg #[.int .i64 ((rd_T88 l0_2 x4_1).f0), .int .i64 ((rd_T88 l0_2 x4_1).f1), .int .i64 ((rd_T88 l0_2 x4_1).f2), .string ((rd_T88 l0_2 x4_1).f3), .slice A224_4 ((rd_T88 l0_2 x4_1).f4).length c224_4]] ?_; (with_reducible refine (spec_l02OwnNode.calls ((rd_T88 l0_2 x4_1).f0) ((rd_T88 l0_2 x4_1).f1) ((rd_T88 l0_2 x4_1).f2) ((rd_T88 l0_2 x4_1).f3) _ _ ((rd_T88 l0_2 x4_1).f4) t225 t226 t227 t228 t229 _ ?side1 ?side2 A8.out).mono ?_); (case side1 => exact Xc HR224_4); (case side2 => exact HC224_4.out); rintro e w12 ⟨v230, rfl, ho0, hb⟩; refine ⟨_, rfl, ?_⟩; replace HO_3 := Aside0.mk (Kd.S_elder' (Xq HO_3) (Kd.R_base ho0) hb); have HO231 := Aside0.mk (Kd.R_lower ho0 (below_size Xi)); replace BK219 := Xbb BK219 hb; replace BK220 := Xbb BK220 hb; replace HB := Aside0.mk (below_step Xi hb); clear hb; (try clear ho0); obtain ⟨Ao14, co14, eo14⟩ := Kd.R_slice HO231.out; subst eo14) | ((with_reducible refine gate_builtin (b := .append) (xs := #[.tmp 13, .tmp 20]) rfl ?_); at_builtin; refine Kd.S_append k88 (w0 := w) w.heap.size rfl (.tmp 13) (.tmp 20) 27 88 (.agg #[(.int .i64 0), (.int .i64 0), (.int .i64 0), (.string ⟨#[]⟩), (.slice none 0 0)]) 64 rfl Try.underlying27 info88 rfl (by decide) (by omega) u3 x3_1 (⟨t225, t226, t227, t228, t229⟩ : S88) [.int .i64 t225, .int .i64 t226, .int .i64 t227, .string t228, .slice Ao14 t229.length co14] (fun _ => True) (fun k_ => some k_ = (.slice Ao14 t229.length co14 : Value).ownBlock) rfl rfl ?aP (fun k_ hk_ => ((Kd.R_mono (ok' := fun k_ => ((fun _ => True)) k_ ∧ some k_ ≠ (u3 : Value).ownBlock) (Kd.R_apart' (HO231.out) (Kd.S_typed HO_3.out) (by decide)) (fun k_ hk => ⟨trivial, hk.2⟩))).1 k_ hk_.symm) ?aF ?aO ?aB ?aS ?aL ?_; (case aP => exact k88_mkM _ _ _ (⟨t225, t226, t227, t228, t229⟩ : S88) (Kd.R_mono (Kd.R_tight rfl (Kd.R_mono (ok' := fun k_ => ((fun _ => True)) k_ ∧ some k_ ≠ (u3 : Value).ownBlock) (Kd.R_apart' (HO231.out) (Kd.S_typed HO_3.out) (by decide)) (fun k_ hk => ⟨trivial, hk.2⟩))) (fun _ h_ => h_))); (case aB => exact Xi); (case aF => exact (fun _ _ => trivial)); (case aO => exact (by (with_reducible repeat (first | apply Kd.S_alloc | apply Kd.S_drewN | apply Kd.S_drew)); exact Kd.S_mono HO_3.out (fun k_ hk => ⟨trivial, fun e_ => hk.2 e_⟩))); (case aS => exact (below_size Xi)); (case aL => have := LMc9.out; omega); intro v233 w13 ho hb hg hat; rw [← Ny232.out] at ho; replace BK219 := Aside0.mk (blk_grown (g := gb219) (o := .cells #[.int .i64 a0_0, .int .i64 a0_1, .slice (some ad224) l0_2.length c0_2] 29 (0, 0)) (Xq' BK219) hg (Kd.S_ne HO_3.out BK219.out (by decide))); replace BK220 := Aside0.mk (blk_grown (g := gb220) (o := .cells #[.int .i64 0, .int .i64 0, .slice none 0 0] 29 (0, 0)) (Xq' BK220) hg (Kd.S_ne HO_3.out BK220.out (by decide))); replace HB := Aside0.mk (hb); have HO234 := Aside0.mk (ho); clear HO_3; clear HO231; clear ho hb hg hat))
    go_roundg k1
    case measure => have := HK1.out; omega
    case rel => exact ⟨(y232), (wrap64 (x4_1 + 1)), Xr, H', Xk1, (Xp' HO234), (Xp BK219), (Xp BK220), ⟨Xi⟩⟩
   ·simp only [Option.some.injEq, Prod.mk.injEq] at H
    obtain ⟨rfl, rfl, rfl⟩ := H
    have hnb15 := NB219_220.out
    have hnc15 := NB220_219.out
    obtain ⟨hcz16_0, hcz16_1, hcz16_2⟩ := Xc3 BK219
    obtain ⟨hfz16_0, hfz16_1, hfz16_2⟩ := Xf3 BK219
    obtain ⟨Ao17, co17, eo17⟩ := Kd.S_slice HO_3.out
    subst eo17
    obtain ⟨hcz18_0, hcz18_1, hcz18_2⟩ := Xc3 BK220
    obtain ⟨hfz18_0, hfz18_1, hfz18_2⟩ := Xf3 BK220
    go_wp2_with (first | ((with_reducible refine gate_store (t := 29) (p := 2) rfl ?_); refine store_event (t := 29) (p := 2) (v := ?vo_w19) (w1 := ((((wr.setCell ⟨gb219, 2, none⟩ (.slice Ao17 x3_1.length co17)).setCell ⟨gb220, 0, none⟩ (.int .i64 a0_0)).setCell ⟨gb220, 1, none⟩ (.int .i64 a0_1)).setCell ⟨gb220, 2, none⟩ (.slice Ao17 x3_1.length co17))) ?hg ?ho ?hn ?hr ?_; (case ho => rfl); (case hg => rfl); (case hn => rfl); (case hr => first | (go_simp; done) | (go_simp; rfl)); intro w19 hw; have n0_ : Aside0 (Kd.S k88 88 w19 w.heap.size (fun _ => True) (.slice Ao17 x3_1.length co17) x3_1) := ⟨(by rw [hw]; exact (by (with_reducible repeat (first | apply Kd.S_alloc | apply Kd.S_drewN | apply Kd.S_drew)); exact Kd.S_mono (Kd.S_far (p := ⟨gb220, 2, none⟩) (Kd.S_far (p := ⟨gb220, 1, none⟩) (Kd.S_far (p := ⟨gb220, 0, none⟩) (Kd.S_far (p := ⟨gb219, 2, none⟩) (Kd.S_types (Kd.S_types HO_3.out BK219.out (by decide)) BK220.out (by decide)) (fun _ hk => hk.1.2) (.slice Ao17 x3_1.length co17)) (fun _ hk => hk.2) (.int .i64 a0_0)) (fun _ hk => hk.2) (.int .i64 a0_1)) (fun _ hk => hk.2) (.slice Ao17 x3_1.length co17)) (fun _ hk => trivial)))⟩; have n1_ : Aside0 (w19.heap[gb219]? = some (.cells #[.int .i64 a0_0, .int .i64 a0_1, .slice Ao17 x3_1.length co17] 29 (0, 0))) := ⟨(by rw [hw]; exact (by (with_reducible repeat (first | refine blk_drewN ?_ _ | refine blk_drew ?_ | refine blk_alloc ?_ _)); refine blk_far ?_ NB219_220.out _; (with_reducible repeat (first | refine blk_drewN ?_ _ | refine blk_drew ?_ | refine blk_alloc ?_ _)); refine blk_far ?_ NB219_220.out _; (with_reducible repeat (first | refine blk_drewN ?_ _ | refine blk_drew ?_ | refine blk_alloc ?_ _)); refine blk_far ?_ NB219_220.out _; (with_reducible repeat (first | refine blk_drewN ?_ _ | refine blk_drew ?_ | refine blk_alloc ?_ _)); refine blk_put (cs := #[.int .i64 a0_0, .int .i64 a0_1, .slice A0_2 l0_2.length c0_2]) ?_ 2 _ rfl; (with_reducible repeat (first | refine blk_drewN ?_ _ | refine blk_drew ?_ | refine blk_alloc ?_ _)); exact BK219.out))⟩; have n2_ : Aside0 (w19.heap[gb220]? = some (.cells #[.int .i64 a0_0, .int .i64 a0_1, .slice Ao17 x3_1.length co17] 29 (0, 0))) := ⟨(by rw [hw]; exact (by (with_reducible repeat (first | refine blk_drewN ?_ _ | refine blk_drew ?_ | refine blk_alloc ?_ _)); refine blk_put (cs := #[.int .i64 a0_0, .int .i64 a0_1, .slice none 0 0]) ?_ 2 _ rfl; (with_reducible repeat (first | refine blk_drewN ?_ _ | refine blk_drew ?_ | refine blk_alloc ?_ _)); refine blk_put (cs := #[.int .i64 a0_0, .int .i64 0, .slice none 0 0]) ?_ 1 _ rfl; (with_reducible repeat (first | refine blk_drewN ?_ _ | refine blk_drew ?_ | refine blk_alloc ?_ _)); refine blk_put (cs := #[.int .i64 0, .int .i64 0, .slice none 0 0]) ?_ 0 _ rfl; (with_reducible repeat (first | refine blk_drewN ?_ _ | refine blk_drew ?_ | refine blk_alloc ?_ _)); refine blk_far ?_ NB220_219.out _; (with_reducible repeat (first | refine blk_drewN ?_ _ | refine blk_drew ?_ | refine blk_alloc ?_ _)); exact BK220.out))⟩; have n3_ : Aside0 (Below w.heap.size w w19) := ⟨(by rw [hw]; exact Xi)⟩; clear hw; clear HO_3; clear BK219; clear BK220; clear HB; have HO_3 := n0_; have BK219 := n1_; have BK220 := n2_; have HB := n3_; clear n0_ n1_ n2_ n3_))
    refine bodyPost_ret (results_cell_row rfl _ _ gb220 29 #[.int .i64 a0_0, .int .i64 a0_1, .slice Ao17 x3_1.length co17] (0, 0) _ rfl (Xq' BK220) Try.underlying29 rfl (by kernel_rfl)) rfl ?_
    exact ⟨_, Xe, Xq HO_3, Xi⟩

end Go.Proofs.Ytfemohapampkiaa.XA
