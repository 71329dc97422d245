/- Contracts of the program's functions: each Go function that is named below comes to what its Lean function says. Written by xprint.py (a program of this session's, over the kit's print). Conditions: each contract's own premises. -/
import Derived.Test.YtfemohapampkiaaYKidsOf0
import Derived.Test.YtfemohapampkiaaYKidsOf2
import Derived.Test.YtfemohapampkiaaYKidsOf4
import Derived.Test.YtfemohapampkiaaYKidsOf5
namespace Go.Proofs.Ytfemohapampkiaa.XA
open Go.RowKit Go.Proofs.YtfemohapampkiaaW.PrintWords Go.Proofs.YtfemohapampkiaaW.PrintLast Go.Proofs.YtfemohapampkiaaW.PrintMore XW
attribute [local go_sem] max2_int min2_int max_two min_two max_three min_three max_four min_four   -- for this text's walks alone
set_option linter.unusedVariables false
set_option linter.unusedSimpArgs false

/-! ### spec_l02OK: function 58 -/
def spec_l02OK.f (k : Nat) (a0_0 : Int) (a0_1 : Int) (l0_2 : List (S88)) : Option (Bool) := (spec_l01In.f (l0_2.length : Int) 1 40).bind fun t186 => (if t186 = true then ((spec_l01In.f a0_1 2 999999).bind fun t187 => (if t187 = true then ((spec_l02Nodes.f k a0_0 a0_1 l0_2).bind fun t188 => (if t188 = true then ((spec_l02Reach.f k a0_0 a0_1 l0_2).bind fun t189 => (if t189 = true then ((spec_l02Deep.f k a0_0 a0_1 l0_2 a0_0 6).bind fun t190 => (some (decide (t190 ≤ 6)))) else (some false))) else (some false))) else (some false))) else (some false))
set_option maxHeartbeats 8000000 in
set_option maxRecDepth 100000 in
theorem spec_l02OK.calls (k : Nat) (a0_0 : Int) (a0_1 : Int) (A0_2 : Option Addr) (c0_2 : Nat) (l0_2 : List (S88)) (r : Bool) (w : World) (hr0_2 : Kd.C k88 w A0_2 l0_2.length l0_2) (hc0_2 : l0_2.length ≤ c0_2) (h : spec_l02OK.f k a0_0 a0_1 l0_2 = some r) :
  Calls Try.prog 58 #[.agg #[.int .i64 a0_0, .int .i64 a0_1, .slice A0_2 l0_2.length c0_2]] w fun e w' => e = .returned (.bool r) ∧ Below w.heap.size w w' := by
 have hu29 := Try.underlying29
 have HR0_2 := Aside0.mk hr0_2
 have HC0_2 := Aside0.mk hc0_2
 clear hr0_2 hc0_2
 have HB := Aside0.mk (Below.refl w.heap.size w)
 have H : ((spec_l01In.f (l0_2.length : Int) 1 40).bind fun t186 => (if t186 = true then ((spec_l01In.f a0_1 2 999999).bind fun t187 => (if t187 = true then ((spec_l02Nodes.f k a0_0 a0_1 l0_2).bind fun t188 => (if t188 = true then ((spec_l02Reach.f k a0_0 a0_1 l0_2).bind fun t189 => (if t189 = true then ((spec_l02Deep.f k a0_0 a0_1 l0_2 a0_0 6).bind fun t190 => (some (decide (t190 ≤ 6)))) else (some false))) else (some false))) else (some false))) else (some false))) = some r := h
 clear h
 have HC2 := Aside0.mk H
 clear H
 go_enter Try.func58, Try.ntmps58
 go_upto_region 1 with (first | ((with_reducible refine gate_dst (N := 1) rfl ?_); refine Xbox 1 #[.int .i64 a0_0, .int .i64 a0_1, .slice A0_2 l0_2.length c0_2] 29 ?_; intro gb185 hg w3 hbox hb; have BK185 := Aside0.mk (hbox); have GE185 := Xge hg Xi; replace HB := Aside0.mk (below_step Xi hb); clear hb hbox hg))
 have H := HC2.out
 clear HC2
 obtain ⟨t186, A4, H⟩ := Xbi H
 (try dsimp only at H)
 by_cases c5 : t186 = true
 ·subst c5
  (first | rw [if_pos rfl] at H | skip)
  obtain ⟨t187, A6, H⟩ := Xbi H
  (try dsimp only at H)
  by_cases c7 : t187 = true
  ·subst c7
   (first | rw [if_pos rfl] at H | skip)
   obtain ⟨t188, A8, H⟩ := Xbi H
   (try dsimp only at H)
   by_cases c9 : t188 = true
   ·subst c9
    (first | rw [if_pos rfl] at H | skip)
    obtain ⟨t189, A10, H⟩ := Xbi H
    (try dsimp only at H)
    by_cases c11 : t189 = true
    ·subst c11
     (first | rw [if_pos rfl] at H | skip)
     obtain ⟨t190, A12, H⟩ := Xbi H
     (try dsimp only at H)
     obtain rfl := Option.some.inj H
     obtain ⟨hcz13_0, hcz13_1, hcz13_2⟩ := Xc3 BK185
     go_wp2_with (first | ((with_reducible refine gate_callee (f := 116) rfl ?_); refine Xgo 6 Try.func116 #[.int .i64 (l0_2.length : Int), .int .i64 1, .int .i64 40] ?_; (with_reducible refine (spec_l01In.calls (l0_2.length : Int) 1 40 true _ A4.out).mono ?_); rintro e w' ⟨rfl, ⟨nd, rfl⟩⟩; refine ⟨_, rfl, ?_⟩) | (go_at_call 116; (with_reducible refine (spec_l01In.calls a0_1 2 999999 true _ A6.out).mono ?_); rintro e w' ⟨rfl, ⟨nd, rfl⟩⟩) | (go_at_call 117; (with_reducible refine (spec_l02Nodes.calls k a0_0 a0_1 _ _ l0_2 true _ ?side1 ?side2 A8.out).mono ?_); (case side1 => exact Xc HR0_2); (case side2 => exact HC0_2.out); rintro e w14 ⟨rfl, hb⟩; replace BK185 := Xbb BK185 hb; replace HB := Aside0.mk (below_step Xi hb); clear hb; obtain ⟨hcz15_0, hcz15_1, hcz15_2⟩ := Xc3 BK185) | (go_at_call 118; (with_reducible refine (spec_l02Reach.calls k a0_0 a0_1 _ _ l0_2 true _ ?side1 ?side2 A10.out).mono ?_); (case side1 => exact Xc HR0_2); (case side2 => exact HC0_2.out); rintro e w16 ⟨rfl, hb⟩; replace BK185 := Xbb BK185 hb; replace HB := Aside0.mk (below_step Xi hb); clear hb; obtain ⟨hcz17_0, hcz17_1, hcz17_2⟩ := Xc3 BK185) | (go_at_call 119; (with_reducible refine (spec_l02Deep.calls k a0_0 a0_1 _ _ l0_2 a0_0 6 t190 _ ?side1 ?side2 A12.out).mono ?_); (case side1 => exact Xc HR0_2); (case side2 => exact HC0_2.out); rintro e w18 ⟨rfl, hb⟩; replace BK185 := Xbb BK185 hb; replace HB := Aside0.mk (below_step Xi hb); clear hb))
     go_ret
     exact ⟨Xe, Xi⟩
    ·replace c11 := Bool.eq_false_iff.mpr c11
     subst c11
     (first | rw [if_neg (show ¬ (false = true) by decide)] at H | skip)
     obtain rfl := Option.some.inj H
     obtain ⟨hcz19_0, hcz19_1, hcz19_2⟩ := Xc3 BK185
     go_wp2_with (first | ((with_reducible refine gate_callee (f := 116) rfl ?_); refine Xgo 6 Try.func116 #[.int .i64 (l0_2.length : Int), .int .i64 1, .int .i64 40] ?_; (with_reducible refine (spec_l01In.calls (l0_2.length : Int) 1 40 true _ A4.out).mono ?_); rintro e w' ⟨rfl, ⟨nd, rfl⟩⟩; refine ⟨_, rfl, ?_⟩) | (go_at_call 116; (with_reducible refine (spec_l01In.calls a0_1 2 999999 true _ A6.out).mono ?_); rintro e w' ⟨rfl, ⟨nd, rfl⟩⟩) | (go_at_call 117; (with_reducible refine (spec_l02Nodes.calls k a0_0 a0_1 _ _ l0_2 true _ ?side1 ?side2 A8.out).mono ?_); (case side1 => exact Xc HR0_2); (case side2 => exact HC0_2.out); rintro e w20 ⟨rfl, hb⟩; replace BK185 := Xbb BK185 hb; replace HB := Aside0.mk (below_step Xi hb); clear hb; obtain ⟨hcz21_0, hcz21_1, hcz21_2⟩ := Xc3 BK185) | (go_at_call 118; (with_reducible refine (spec_l02Reach.calls k a0_0 a0_1 _ _ l0_2 false _ ?side1 ?side2 A10.out).mono ?_); (case side1 => exact Xc HR0_2); (case side2 => exact HC0_2.out); rintro e w22 ⟨rfl, hb⟩; replace BK185 := Xbb BK185 hb; replace HB := Aside0.mk (below_step Xi hb); clear hb))
     go_ret
     exact ⟨Xe, Xi⟩
   ·replace c9 := Bool.eq_false_iff.mpr c9
    subst c9
    (first | rw [if_neg (show ¬ (false = true) by decide)] at H | skip)
    obtain rfl := Option.some.inj H
    obtain ⟨hcz23_0, hcz23_1, hcz23_2⟩ := Xc3 BK185
    go_wp2_with (first | ((with_reducible refine gate_callee (f := 116) rfl ?_); refine Xgo 6 Try.func116 #[.int .i64 (l0_2.length : Int), .int .i64 1, .int .i64 40] ?_; (with_reducible refine (spec_l01In.calls (l0_2.length : Int) 1 40 true _ A4.out).mono ?_); rintro e w' ⟨rfl, ⟨nd, rfl⟩⟩; refine ⟨_, rfl, ?_⟩) | (go_at_call 116; (with_reducible refine (spec_l01In.calls a0_1 2 999999 true _ A6.out).mono ?_); rintro e w' ⟨rfl, ⟨nd, rfl⟩⟩) | (go_at_call 117; (with_reducible refine (spec_l02Nodes.calls k a0_0 a0_1 _ _ l0_2 false _ ?side1 ?side2 A8.out).mono ?_); (case side1 => exact Xc HR0_2); (case side2 => exact HC0_2.out); rintro e w24 ⟨rfl, hb⟩; replace BK185 := Xbb BK185 hb; replace HB := Aside0.mk (below_step Xi hb); clear hb))
    go_ret
    exact ⟨Xe, Xi⟩
  ·replace c7 := Bool.eq_false_iff.mpr c7
   subst c7
   (first | rw [if_neg (show ¬ (false = true) by decide)] at H | skip)
   obtain rfl := Option.some.inj H
   obtain ⟨hcz25_0, hcz25_1, hcz25_2⟩ := Xc3 BK185
   go_wp2_with (first | ((with_reducible refine gate_callee (f := 116) rfl ?_); refine Xgo 6 Try.func116 #[.int .i64 (l0_2.length : Int), .int .i64 1, .int .i64 40] ?_; (with_reducible refine (spec_l01In.calls (l0_2.length : Int) 1 40 true _ A4.out).mono ?_); rintro e w' ⟨rfl, ⟨nd, rfl⟩⟩; refine ⟨_, rfl, ?_⟩) | (go_at_call 116; (with_reducible refine (spec_l01In.calls a0_1 2 999999 false _ A6.out).mono ?_); rintro e w' ⟨rfl, ⟨nd, rfl⟩⟩))
   go_ret
   exact ⟨Xe, Xi⟩
 ·replace c5 := Bool.eq_false_iff.mpr c5
  subst c5
  (first | rw [if_neg (show ¬ (false = true) by decide)] at H | skip)
  obtain rfl := Option.some.inj H
  obtain ⟨hcz26_0, hcz26_1, hcz26_2⟩ := Xc3 BK185
  go_wp2_with (first | ((with_reducible refine gate_callee (f := 116) rfl ?_); refine Xgo 6 Try.func116 #[.int .i64 (l0_2.length : Int), .int .i64 1, .int .i64 40] ?_; (with_reducible refine (spec_l01In.calls (l0_2.length : Int) 1 40 false _ A4.out).mono ?_); rintro e w' ⟨rfl, ⟨nd, rfl⟩⟩; refine ⟨_, rfl, ?_⟩))
  go_ret
  exact ⟨Xe, Xi⟩

/-! ### spec_l02Ask: function 67 -/
def spec_l02Ask.f (k : Nat) (a0_0 : Int) (a0_1 : Int) (l0_2 : List (S88)) (a1 : Int) : Option (Int) := (spec_l02OK.f k a0_0 a0_1 l0_2).bind fun t192 => (if t192 = true then ((spec_l02At.f k a0_0 a0_1 l0_2 a1).bind fun t193 => (if t193 < 0 then (some 5) else (some 0))) else (some 1))
set_option maxHeartbeats 8000000 in
set_option maxRecDepth 100000 in
theorem spec_l02Ask.calls (k : Nat) (a0_0 : Int) (a0_1 : Int) (A0_2 : Option Addr) (c0_2 : Nat) (l0_2 : List (S88)) (a1 : Int) (r : Int) (w : World) (hr0_2 : Kd.C k88 w A0_2 l0_2.length l0_2) (hc0_2 : l0_2.length ≤ c0_2) (h : spec_l02Ask.f k a0_0 a0_1 l0_2 a1 = some r) :
  Calls Try.prog 67 #[.agg #[.int .i64 a0_0, .int .i64 a0_1, .slice A0_2 l0_2.length c0_2], .int .i64 a1] w fun e w' => e = .returned (.int .i64 r) ∧ Below w.heap.size w w' := by
 have hu29 := Try.underlying29
 have HR0_2 := Aside0.mk hr0_2
 have HC0_2 := Aside0.mk hc0_2
 clear hr0_2 hc0_2
 have HB := Aside0.mk (Below.refl w.heap.size w)
 have H : ((spec_l02OK.f k a0_0 a0_1 l0_2).bind fun t192 => (if t192 = true then ((spec_l02At.f k a0_0 a0_1 l0_2 a1).bind fun t193 => (if t193 < 0 then (some 5) else (some 0))) else (some 1))) = some r := h
 clear h
 obtain ⟨t192, A3, H⟩ := Xbi H
 (try dsimp only at H)
 have HC4 := Aside0.mk H
 clear H
 go_enter Try.func67, Try.ntmps67
 go_upto_if 7 with (first | ((with_reducible refine gate_dst (N := 2) rfl ?_); refine Xbox 2 #[.int .i64 a0_0, .int .i64 a0_1, .slice A0_2 l0_2.length c0_2] 29 ?_; intro gb191 hg w5 hbox hb; have BK191 := Aside0.mk (hbox); have GE191 := Xge hg Xi; replace HB := Aside0.mk (below_step Xi hb); clear hb hbox hg; obtain ⟨hcz6_0, hcz6_1, hcz6_2⟩ := Xc3 BK191) | ((with_reducible refine gate_callee (f := 58) rfl ?_); refine Xgo 6 Try.func58 #[.agg #[.int .i64 a0_0, .int .i64 a0_1, .slice A0_2 l0_2.length c0_2]] ?_; (with_reducible refine (spec_l02OK.calls k a0_0 a0_1 _ _ l0_2 t192 _ ?side1 ?side2 A3.out).mono ?_); (case side1 => exact Xc HR0_2); (case side2 => exact HC0_2.out); rintro e w7 ⟨rfl, hb⟩; refine ⟨_, rfl, ?_⟩; replace BK191 := Xbb BK191 hb; replace HB := Aside0.mk (below_step Xi hb); clear hb))
 have H := HC4.out
 clear HC4
 by_cases c8 : t192 = true
 ·subst c8
  (first | rw [if_pos rfl] at H | skip)
  obtain ⟨t193, A9, H⟩ := Xbi H
  (try dsimp only at H)
  have HC10 := Aside0.mk H
  clear H
  obtain ⟨hcz11_0, hcz11_1, hcz11_2⟩ := Xc3 BK191
  go_upto_if 11 with (first | ((with_reducible refine gate_callee (f := 69) rfl ?_); refine Xgo 10 Try.func69 #[.agg #[.int .i64 a0_0, .int .i64 a0_1, .slice A0_2 l0_2.length c0_2], .int .i64 a1] ?_; (with_reducible refine (spec_l02At.calls k a0_0 a0_1 _ _ l0_2 a1 t193 _ ?side1 ?side2 A9.out).mono ?_); (case side1 => exact Xc HR0_2); (case side2 => exact HC0_2.out); rintro e w12 ⟨rfl, hb⟩; refine ⟨_, rfl, ?_⟩; replace BK191 := Xbb BK191 hb; replace HB := Aside0.mk (below_step Xi hb); clear hb))
  have H := HC10.out
  clear HC10
  obtain ⟨c13b0, H⟩ | ⟨c13b0, H⟩ := Xit H
  ·(first | rw [c13b0] | (simp only [i64_w, i32_w]; rw [c13b0]) | skip)
   obtain rfl := Option.some.inj H
   go_wp2
   go_ret
   exact ⟨Xe, Xi⟩
  ·(first | rw [c13b0] | (simp only [i64_w, i32_w]; rw [c13b0]) | skip)
   obtain rfl := Option.some.inj H
   go_wp2
   go_ret
   exact ⟨Xe, Xi⟩
 ·replace c8 := Bool.eq_false_iff.mpr c8
  subst c8
  (first | rw [if_neg (show ¬ (false = true) by decide)] at H | skip)
  obtain rfl := Option.some.inj H
  go_wp2
  go_ret
  exact ⟨Xe, Xi⟩

/-! ### spec_l05Kids: function 68 -/
def spec_l05Kids.l0 : Nat → List Int → Int → Int → Int → List (S88) → Int → Int → Int → ByteArray → List Int → Option (List Int)
 | 0, _, _, _, _, _, _, _, _, _, _ => none
 | k + 1, x5, x6, x195000, x195001, x195002, x196000, x196001, x196002, x196003, x196004 => if x6 < (x196004.length : Int) then (if 0 ≤ x6 then ((spec_l02At.f k x195000 x195001 x195002 (rd x196004 x6)).bind fun t200 => (if 0 ≤ t200 then (if t200 < (x195002.length : Int) then (if x5.length < 17592186044416 then (spec_l05Kids.l0 k (x5 ++ [(rd_T88 x195002 t200).f1]) (wrap64 (x6 + 1)) x195000 x195001 x195002 x196000 x196001 x196002 x196003 x196004) else (none)) else (none)) else (none))) else (none)) else (some x5)
def spec_l05Kids.f (k : Nat) (a0_0 : Int) (a0_1 : Int) (l0_2 : List (S88)) (a1_0 : Int) (a1_1 : Int) (a1_2 : Int) (a1_3 : ByteArray) (l1_4 : List Int) : Option (List Int) := spec_l05Kids.l0 k (([] : List Int)) 0 a0_0 a0_1 l0_2 a1_0 a1_1 a1_2 a1_3 l1_4
def spec_l05Kids.T5 : Bool × List (List Nat × List Nat) := (true, [([], []), ([], []), ([1], [1]), ([], []), ([], []), ([4], [4]), ([], []), ([5, 6], [5, 6]), ([7], [7]), ([3, 8], [3, 8]), ([2, 9], [2, 9]), ([10], [10]), ([11], [11]), ([12], [12]), ([0, 13, 9], [0, 13]), ([14, 14, 0, 1, 2, 3, 4, 5, 6, 7, 8, 9, 10, 11, 12, 13, 14], [0, 14])])
def spec_l05Kids.B5 : List Nat := [0, 0, 2, 0, 0, 16, 0, 112, 240, 504, 1022, 2046, 4094, 8190, 16383, 32767]
theorem spec_l05Kids.tab5 : rtab .any (opsOf Try.f68 5) = spec_l05Kids.T5 := by kernel_rfl
theorem spec_l05Kids.bits5 : waitsOk spec_l05Kids.T5.2 spec_l05Kids.B5 = true := by kernel_rfl
set_option maxHeartbeats 8000000 in
set_option maxRecDepth 100000 in
theorem spec_l05Kids.calls (k : Nat) (a0_0 : Int) (a0_1 : Int) (A0_2 : Option Addr) (c0_2 : Nat) (l0_2 : List (S88)) (a1_0 : Int) (a1_1 : Int) (a1_2 : Int) (a1_3 : ByteArray) (A1_4 : Option Addr) (c1_4 : Nat) (l1_4 : List Int) (r : List Int) (w : World) (hr0_2 : Kd.C k88 w A0_2 l0_2.length l0_2) (hc0_2 : l0_2.length ≤ c0_2) (hr1_4 : Kd.C (Kd.int .i64) w A1_4 l1_4.length l1_4) (hc1_4 : l1_4.length ≤ c1_4) (h : spec_l05Kids.f k a0_0 a0_1 l0_2 a1_0 a1_1 a1_2 a1_3 l1_4 = some r) :
  Calls Try.prog 68 #[.agg #[.int .i64 a0_0, .int .i64 a0_1, .slice A0_2 l0_2.length c0_2], .agg #[.int .i64 a1_0, .int .i64 a1_1, .int .i64 a1_2, .string a1_3, .slice A1_4 l1_4.length c1_4]] w fun e w' => ∃ v0_ : Value, e = .returned (v0_) ∧ Kd.R (Kd.int .i64) 3 w' w.heap.size (fun _ => True) v0_ r ∧ Below w.heap.size w w' := by
 have hu29 := Try.underlying29
 have hu88 := Try.underlying88
 have HR0_2 := Aside0.mk hr0_2
 have HC0_2 := Aside0.mk hc0_2
 clear hr0_2 hc0_2
 have HR1_4 := Aside0.mk hr1_4
 have HC1_4 := Aside0.mk hc1_4
 clear hr1_4 hc1_4
 have HB := Aside0.mk (Below.refl w.heap.size w)
 have H : (spec_l05Kids.l0 k (([] : List Int)) 0 a0_0 a0_1 l0_2 a1_0 a1_1 a1_2 a1_3 l1_4) = some r := h
 clear h
 obtain ⟨y196, hy196⟩ : ∃ y_ : List Int, y_ = (([] : List Int)) := ⟨_, rfl⟩
 replace H : (spec_l05Kids.l0 k y196 0 a0_0 a0_1 l0_2 a1_0 a1_1 a1_2 a1_3 l1_4) = some r := by first | (rw [hy196]; with_reducible exact H) | (have H2_ := (Option.bind_some _ _).symm.trans H; rw [hy196]; with_reducible exact H2_) | (have H2_ := (Option.bind_some _ _).symm.trans H; with_reducible exact H2_) | with_reducible exact H | (rw [hy196]; exact H) | exact H
 have Ny196 := Aside0.mk hy196
 clear hy196
 have H' := Aside0.mk H
 clear H
 go_enter Try.func68, Try.ntmps68
 go_wp2_with (first | ((with_reducible refine gate_dst (N := 2) rfl ?_); refine Xbox 2 #[.int .i64 a0_0, .int .i64 a0_1, .slice A0_2 l0_2.length c0_2] 29 ?_; intro gb194 hg w3 hbox hb; have BK194 := Aside0.mk (hbox); have GE194 := Xge hg Xi; replace HB := Aside0.mk (below_step Xi hb); clear hb hbox hg) | ((with_reducible refine gate_dst (N := 3) rfl ?_); refine Xbox 3 #[.int .i64 a1_0, .int .i64 a1_1, .int .i64 a1_2, .string a1_3, .slice A1_4 l1_4.length c1_4] 88 ?_; intro gb195 hg w4 hbox hb; have BK195 := Aside0.mk (hbox); have GE195 := Xge hg Xi; replace HB := Aside0.mk (below_step Xi hb); have NB194_195 := Xnb hg BK194; have NB195_194 := Xns NB194_195; replace BK194 := Xbb BK194 hb; clear hb hbox hg) | ((with_reducible refine gate_dst (N := 7) rfl ?_); refine Kd.R_lit (Kd.int .i64) _ 3 ?hg (N := 7) ?hd (xs := ([] : List Int)) (inner := []) (ok := fun _ => True) (okp := fun _ => True) ?hr ?hp (fun _ hk => hk) trivial (Below.refl _ _) (Nat.le_refl _) (by simp) ?_; (case hd => rfl); (case hg => rfl); (case hr => first | (go_simp; done) | (go_simp; rfl)); (case hp => exact (Reps.none _ _)); intro v197 w5 ho6 hb hg_ hnew_; clear hg_ hnew_; (first | rw [← Ny196.out] at ho6 | (simp only [Int.reduceToNat] at ho6; rw [← Ny196.out] at ho6)); have HO198 := Aside0.mk (Kd.R_lower ho6 (below_size Xi)); replace BK194 := Xbb BK194 hb; replace BK195 := Xbb BK195 hb; replace HB := Aside0.mk (below_step Xi hb); clear hb ho6))
 go_loopg [5, 6] k (fun kq v5 v6 w' => ∃ (x5_1 : List Int) (x6_1 : Int), v6 = .int .i64 x6_1 ∧ Aside0 (spec_l05Kids.l0 kq x5_1 x6_1 a0_0 a0_1 l0_2 a1_0 a1_1 a1_2 a1_3 l1_4 = some r) ∧ Aside0 (kq ≤ k) ∧ Aside0 (Kd.R (Kd.int .i64) 3 w' w.heap.size (fun _ => True) v5 x5_1) ∧ Aside0 (w'.heap[gb194]? = some (.cells #[.int .i64 a0_0, .int .i64 a0_1, (.slice A0_2 l0_2.length c0_2)] 29 (0, 0))) ∧ Aside0 (w'.heap[gb195]? = some (.cells #[.int .i64 a1_0, .int .i64 a1_1, .int .i64 a1_2, .string a1_3, (.slice A1_4 l1_4.length c1_4)] 88 (0, 0))) ∧ Aside0 (Below w.heap.size w w'))
 case atStart => exact ⟨(y196), (0), Xr, H', Xkr, (Xp' HO198), (Xp BK194), (Xp BK195), ⟨Xi⟩⟩
 case round =>
  clear H'
  obtain ⟨x5_1, x6_1, rfl, HA, HK1, HO_5, BK194, BK195, HB⟩ := hrel
  cases gk with
  | zero => cases HA.out
  | succ k1 =>
   have H := HA.out
   clear HA
   simp only [spec_l05Kids.l0] at H
   obtain ⟨c7b0, H⟩ | ⟨c7b0, H⟩ := Xit H
   ·obtain ⟨c8b0, H⟩ := Xid H
    obtain ⟨t200, A9, H⟩ := Xbi H
    (try dsimp only at H)
    obtain ⟨c10b0, H⟩ := Xid H
    obtain ⟨c11b0, H⟩ := Xid H
    obtain ⟨c12, H⟩ := Xif H
    have LMc12 := Aside0.mk c12
    clear c12
    obtain ⟨y202, hy202⟩ : ∃ y_ : List Int, y_ = (x5_1 ++ [(rd_T88 l0_2 t200).f1]) := ⟨_, rfl⟩
    replace H : (spec_l05Kids.l0 k1 y202 (wrap64 (x6_1 + 1)) a0_0 a0_1 l0_2 a1_0 a1_1 a1_2 a1_3 l1_4) = some r := by first | (rw [hy202]; with_reducible exact H) | (have H2_ := (Option.bind_some _ _).symm.trans H; rw [hy202]; with_reducible exact H2_) | (have H2_ := (Option.bind_some _ _).symm.trans H; with_reducible exact H2_) | with_reducible exact H | (rw [hy202]; exact H) | exact H
    have Ny202 := Aside0.mk hy202
    clear hy202
    have H' := Aside0.mk H
    clear H
    have hnb13 := NB195_194.out
    have hnc13 := NB194_195.out
    obtain ⟨hcz14_0, hcz14_1, hcz14_2, hcz14_3, hcz14_4⟩ := Xc5 BK195
    try go_wp2_with (fail)
    replace HO_5 := Aside0.mk (Kd.R_drew HO_5.out)
    replace BK194 := Aside0.mk (blk_drew BK194.out)
    replace BK195 := Aside0.mk (blk_drew BK195.out)
    replace HB := Aside0.mk (below_drew1 HB.out)
    have p199 : 0 ≤ (x6_1 : Int) := of_decide_eq_true Xa
    have q199 : x6_1 < (l1_4.length : Int) := of_decide_eq_true Xa
    obtain ⟨ad199, e199, hx199_0⟩ := Kd.at_int HR1_4.out x6_1 p199 q199
    have hw199_0 := hx199_0
    cases e199
    replace hx199_0 := Xm HB hx199_0
    replace p199 := eq_true p199
    replace q199 := eq_true q199
    have p201 : 0 ≤ (t200 : Int) := of_decide_eq_true Xa
    have q201 : t200 < (l0_2.length : Int) := of_decide_eq_true Xa
    obtain ⟨ad201, A201_4, c201_4, e201, hx201_0, hx201_1, hx201_2, hx201_3, hx201_4, hl201_4, hi201_4⟩ := at_T88 HR0_2.out t200 p201 q201
    have hw201_4 := hx201_4
    have hw201_3 := hx201_3
    have hw201_2 := hx201_2
    have hw201_1 := hx201_1
    have hw201_0 := hx201_0
    cases e201
    replace hx201_0 := Xm HB hx201_0
    replace hx201_1 := Xm HB hx201_1
    replace hx201_2 := Xm HB hx201_2
    replace hx201_3 := Xm HB hx201_3
    replace hx201_4 := Xm HB hx201_4
    have HR201_4 := Aside0.mk hi201_4
    have HC201_4 := Aside0.mk hl201_4
    clear hi201_4 hl201_4
    replace p201 := eq_true p201
    replace q201 := eq_true q201
    refine start_ (n := 16) (S := fun w' => w'.cell? ⟨gb194, 0, none⟩ = some (.int .i64 a0_0) ∧ w'.cell? ⟨gb194, 1, none⟩ = some (.int .i64 a0_1) ∧ w'.cell? ⟨gb194, 2, none⟩ = some (.slice (some ad201) l0_2.length c0_2) ∧ w'.cell? ⟨gb195, 0, none⟩ = some (.int .i64 a1_0) ∧ w'.cell? ⟨gb195, 1, none⟩ = some (.int .i64 a1_1) ∧ w'.cell? ⟨gb195, 2, none⟩ = some (.int .i64 a1_2) ∧ w'.cell? ⟨gb195, 3, none⟩ = some (.string a1_3) ∧ w'.cell? ⟨gb195, 4, none⟩ = some (.slice (some ad199) l1_4.length c1_4) ∧ w'.cell? (ad199.add (x6_1).toNat) = some (.int .i64 (rd l1_4 x6_1)) ∧ w'.cell? (ad201.add ((t200).toNat * 5)) = some (.int .i64 ((rd_T88 l0_2 t200).f0)) ∧ w'.cell? ⟨(ad201.add ((t200).toNat * 5)).block, (ad201.add ((t200).toNat * 5)).off + 1, none⟩ = some (.int .i64 ((rd_T88 l0_2 t200).f1)) ∧ w'.cell? ⟨(ad201.add ((t200).toNat * 5)).block, (ad201.add ((t200).toNat * 5)).off + 2, none⟩ = some (.int .i64 ((rd_T88 l0_2 t200).f2)) ∧ w'.cell? ⟨(ad201.add ((t200).toNat * 5)).block, (ad201.add ((t200).toNat * 5)).off + 3, none⟩ = some (.string ((rd_T88 l0_2 t200).f3)) ∧ w'.cell? ⟨(ad201.add ((t200).toNat * 5)).block, (ad201.add ((t200).toNat * 5)).off + 4, none⟩ = some (.slice A201_4 ((rd_T88 l0_2 t200).f4).length c201_4)) (ds := []) #[false, false, false, false, false, false, false, false, false, false, false, false, false, false, false, false] (by kernel_rfl) rfl rfl ⟨(blk_cell BK194.out 0).trans rfl, (blk_cell BK194.out 1).trans rfl, (blk_cell BK194.out 2).trans rfl, (blk_cell BK195.out 0).trans rfl, (blk_cell BK195.out 1).trans rfl, (blk_cell BK195.out 2).trans rfl, (blk_cell BK195.out 3).trans rfl, (blk_cell BK195.out 4).trans rfl, Xn hw199_0, Xn hw201_0, Xn hw201_1, Xn hw201_2, Xn hw201_3, Xn hw201_4⟩ (fun hHeld => ?_); refine with_tabW spec_l05Kids.tab5 spec_l05Kids.bits5 (fun HT_ HW_ => ?_)
    generalize wr.drew = w15 at HO_5 BK194 BK195 HB HR201_4 hx199_0 hx201_0 hx201_1 hx201_2 hx201_3 hx201_4 hHeld ⊢
    refine Xpu 0 15 (XW.bs 16 1) HT_.out ?_
    refine Xpu 1 16 (XW.bs 16 3) HT_.out ?_
    refine Xpu 4 19 (XW.bs 16 19) HT_.out ?_
    refine Xpu 6 21 (XW.bs 16 83) HT_.out ?_
    refine Xta 2 17 (XW.bs 16 87) HT_.out HW_.out hHeld ?_
    refine Xta 3 18 (XW.bs 16 95) HT_.out HW_.out hHeld ?_
    refine Xta 5 20 (XW.bs 16 127) HT_.out HW_.out hHeld ?_
    refine Xpu 7 22 (XW.bs 16 255) HT_.out ?_
    refine Xta 8 23 (XW.bs 16 511) HT_.out HW_.out hHeld ?_
    refine one_ (i := 9) (N := some 24) (XW.bs 16 1023) rfl rfl (one_of HT_.out (by kernel_rfl)) (by decide) (fun K hK => ?_)
    refine goes_ Try.func69 (by kernel_rfl) rfl #[.agg #[.int .i64 a0_0, .int .i64 a0_1, .slice (some ad201) l0_2.length c0_2], .int .i64 (rd l1_4 x6_1)] (by rfl) rfl rfl (by (try simp only [List.map_toArray, List.map_cons, List.map_nil]); first | done | rfl | (simp only [List.length_drop, List.length_take]; rfl)) ?_
    with_reducible refine (spec_l02At.calls k1 a0_0 a0_1 _ _ l0_2 (rd l1_4 x6_1) t200 _ ?side1 ?side2 A9.out).mono ?_
    (case side1 => exact Xc HR0_2)
    (case side2 => exact HC0_2.out)
    rintro e w16 ⟨rfl, hb⟩
    refine ⟨_, rfl, ?_⟩
    replace HO_5 := Aside0.mk (Kd.R_below (Xq HO_5) hb)
    replace BK194 := Xbb BK194 hb
    replace BK195 := Xbb BK195 hb
    replace HB := Aside0.mk (below_step Xi hb)
    (try clear hb)
    (try clear hb2)
    (try clear hk)
    (try clear hi)
    refine hK.out _ _ ⟨(blk_cell BK194.out 0).trans rfl, (blk_cell BK194.out 1).trans rfl, (blk_cell BK194.out 2).trans rfl, (blk_cell BK195.out 0).trans rfl, (blk_cell BK195.out 1).trans rfl, (blk_cell BK195.out 2).trans rfl, (blk_cell BK195.out 3).trans rfl, (blk_cell BK195.out 4).trans rfl, Xn hw199_0, Xn hw201_0, Xn hw201_1, Xn hw201_2, Xn hw201_3, Xn hw201_4⟩ (fun hHeld => ?_)
    clear hK K
    refine Xno ?_
    refine Xpu 10 25 (XW.bs 16 2047) HT_.out ?_
    refine Xpu 11 26 (XW.bs 16 4095) HT_.out ?_
    refine Xta 12 27 (XW.bs 16 8191) HT_.out HW_.out hHeld ?_
    refine one_ (i := 13) (N := some 28) (XW.bs 16 16383) rfl rfl (one_of HT_.out (by kernel_rfl)) (by decide) (fun K hK => ?_)
    refine value_ (w1 := ?_) (v := ?_) (by rfl) rfl ?_ ?_
    rotate_left 2
    ·go_simp
     constructor
     ·rfl
     ·rfl
    refine hK.out _ _ ⟨(blk_cell (blk_alloc BK194.out _) 0).trans rfl, (blk_cell (blk_alloc BK194.out _) 1).trans rfl, (blk_cell (blk_alloc BK194.out _) 2).trans rfl, (blk_cell (blk_alloc BK195.out _) 0).trans rfl, (blk_cell (blk_alloc BK195.out _) 1).trans rfl, (blk_cell (blk_alloc BK195.out _) 2).trans rfl, (blk_cell (blk_alloc BK195.out _) 3).trans rfl, (blk_cell (blk_alloc BK195.out _) 4).trans rfl, (World.cell?_alloc_lt _ _ _ (World.block_lt_of_cell? _ _ (Xn hw199_0))).trans (Xn hw199_0), (World.cell?_alloc_lt _ _ _ (World.block_lt_of_cell? _ _ (Xn hw201_0))).trans (Xn hw201_0), (World.cell?_alloc_lt _ _ _ (World.block_lt_of_cell? _ _ (Xn hw201_1))).trans (Xn hw201_1), (World.cell?_alloc_lt _ _ _ (World.block_lt_of_cell? _ _ (Xn hw201_2))).trans (Xn hw201_2), (World.cell?_alloc_lt _ _ _ (World.block_lt_of_cell? _ _ (Xn hw201_3))).trans (Xn hw201_3), (World.cell?_alloc_lt _ _ _ (World.block_lt_of_cell? _ _ (Xn hw201_4))).trans (Xn hw201_4)⟩ (fun hHeld => ?_)
    clear hK K
    refine Xno ?_
    refine one_ (i := 14) (N := some 29) (XW.bs 16 32767) rfl rfl (one_of HT_.out (by kernel_rfl)) (by decide) (fun K hK => ?_)
    refine Kd.R_append_step (Kd.int .i64) (w0 := w) w.heap.size (by rfl) (.tmp 15) (.tmp 28) 34 3 (.int .i64 0) 8 rfl Try.underlying34 info3 rfl (by decide) (by omega) u5 x5_1 ((rd_T88 l0_2 t200).f1) [.int .i64 ((rd_T88 l0_2 t200).f1)] (fun _ => True) (fun _ => False) rfl rfl ?aP (fun _ hk => hk.elim) ?aF ?aO ?aB ?aS ?aL ?_
    (case aP => exact rfl)
    (case aB => exact Xi)
    (case aF => exact (fun _ _ => trivial))
    (case aO => exact (Xq HO_5))
    (case aS => exact (below_size Xi))
    (case aL => have := LMc12.out; omega)
    intro v203 w17 ho hb hg hat
    rw [← Ny202.out] at ho
    replace BK194 := Aside0.mk (blk_grown (g := gb194) (o := .cells #[.int .i64 a0_0, .int .i64 a0_1, .slice (some ad201) l0_2.length c0_2] 29 (0, 0)) (Xq' BK194) hg (Kd.R_ne HO_5.out BK194.out (by decide)))
    replace BK195 := Aside0.mk (blk_grown (g := gb195) (o := .cells #[.int .i64 a1_0, .int .i64 a1_1, .int .i64 a1_2, .string a1_3, .slice (some ad199) l1_4.length c1_4] 88 (0, 0)) (Xq' BK195) hg (Kd.R_ne HO_5.out BK195.out (by decide)))
    replace HB := Aside0.mk (hb)
    have HO204 := Aside0.mk (ho)
    clear HO_5
    clear ho hb hg hat
    refine hK.out _ _ ⟨(blk_cell BK194.out 0).trans rfl, (blk_cell BK194.out 1).trans rfl, (blk_cell BK194.out 2).trans rfl, (blk_cell BK195.out 0).trans rfl, (blk_cell BK195.out 1).trans rfl, (blk_cell BK195.out 2).trans rfl, (blk_cell BK195.out 3).trans rfl, (blk_cell BK195.out 4).trans rfl, Xn hw199_0, Xn hw201_0, Xn hw201_1, Xn hw201_2, Xn hw201_3, Xn hw201_4⟩ (fun hHeld => ?_)
    clear hK K
    refine Xno ?_
    refine Xpu 15 5 (XW.bs 16 65535) HT_.out ?_
    refine done_ (done_of HT_.out (by kernel_rfl)) ?_
    try go_wp2_with (fail)
    go_roundg k1
    case measure => have := HK1.out; omega
    case rel => exact ⟨(y202), (wrap64 (x6_1 + 1)), Xr, H', Xk1, (Xp' HO204), (Xp BK194), (Xp BK195), ⟨Xi⟩⟩
   ·obtain rfl := Option.some.inj H
    have hnb18 := NB195_194.out
    have hnc18 := NB194_195.out
    obtain ⟨hcz19_0, hcz19_1, hcz19_2, hcz19_3, hcz19_4⟩ := Xc5 BK195
    go_wp2
    go_ret
    exact ⟨_, Xe, Xq HO_5, Xi⟩

end Go.Proofs.Ytfemohapampkiaa.XA
