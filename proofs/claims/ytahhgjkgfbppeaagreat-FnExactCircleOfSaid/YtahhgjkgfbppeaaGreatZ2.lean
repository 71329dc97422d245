/- Words and contracts of this claim. Conditions: each theorem's own premises. -/
import Derived.Test.YtahhgjkgfbppeaaGreatZ1
namespace Go.Proofs.YtahhgjkgfbppeaaGreat.XA
open Go.RowKit Go.Proofs.YtahhgjkgfbppeaaGreatW.PrintWords Go.Proofs.YtahhgjkgfbppeaaGreatW.PrintLast Go.Proofs.YtahhgjkgfbppeaaGreatW.PrintMore XW
attribute [local go_sem] max2_int min2_int max_two min_two max_three min_three max_four min_four   -- for this text's walks alone
set_option linter.unusedVariables false
set_option linter.unusedSimpArgs false
set_option maxHeartbeats 8000000
set_option maxRecDepth 100000
def spec_l02Parent.l0 : Nat → Int → Int → Int → Int → List (S113) → Option (Int)
 | 0, _, _, _, _, _ => none
 | k + 1, x1, x5, x224000, x224001, x224002 => if x5 < (x224002.length : Int) then (if 0 ≤ x5 then ((spec_l02Has.f k ((rd_T113 x224002 x5).f4) x1).bind fun t10 => (if t10 = true then (some ((rd_T113 x224002 x5).f0)) else (spec_l02Parent.l0 k x1 (wrap64 (x5 + 1)) x224000 x224001 x224002))) else (none)) else (some 0)
def spec_l02Parent.f (k : Nat) (a0_0 : Int) (a0_1 : Int) (l0_2 : List (S113)) (a1 : Int) : Option (Int) := spec_l02Parent.l0 k a1 0 a0_0 a0_1 l0_2
theorem spec_l02Parent.calls (k : Nat) (a0_0 : Int) (a0_1 : Int) (A0_2 : Option Addr) (c0_2 : Nat) (l0_2 : List (S113)) (a1 : Int) (r : Int) (w : World) (hr0_2 : Kd.C k113 w A0_2 l0_2.length l0_2) (hc0_2 : l0_2.length ≤ c0_2) (h : spec_l02Parent.f k a0_0 a0_1 l0_2 a1 = some r) :
  Calls Tryz.prog 166 #[.agg #[.int .i64 a0_0, .int .i64 a0_1, .slice A0_2 l0_2.length c0_2], .int .i64 a1] w fun e w' => e = .returned (.int .i64 r) ∧ Below w.heap.size w w' := by
 have hu35 := Tryz.underlying35
 have HR0_2 := Am hr0_2
 have HC0_2 := Am hc0_2
 clear hr0_2 hc0_2
 have HB := Am (Below.refl w.heap.size w)
 have H : (spec_l02Parent.l0 k a1 0 a0_0 a0_1 l0_2) = some r := h
 clear h
 have H' := Am H
 clear H
 go_enter Tryz.func166, Tryz.ntmps166
 go_wp2_with (first | ((with_reducible refine gate_dst (N := 2) rfl ?_); refine Xbx 2 #[.int .i64 a0_0, .int .i64 a0_1, .slice A0_2 l0_2.length c0_2] 35 ?_; intro gb12 hg w3 B12 GE12 hb; replace HB := Xhb hb; clear hb hg))
 go_loopg [5] k (fun kq v5 w' => ∃ (x5_1 : Int), v5 = .int .i64 x5_1 ∧ Aside0 (spec_l02Parent.l0 kq a1 x5_1 a0_0 a0_1 l0_2 = some r) ∧ Aside0 (kq ≤ k) ∧ Aside0 (w'.heap[gb12]? = some (.cells #[.int .i64 a0_0, .int .i64 a0_1, (.slice A0_2 l0_2.length c0_2)] 35 (0, 0))) ∧ Aside0 (Below w.heap.size w w'))
 case atStart => exact ⟨(0), Xr, H', Xkr, B12, ⟨Xi⟩⟩
 clear H'
 obtain ⟨x5_1, rfl, HA, HK1, B12, HB⟩ := hrel
 cases gk with | zero => cases HA.out | succ k1 => ?_
 have H := HA.out
 clear HA
 simp only [spec_l02Parent.l0] at H
 obtain ⟨c4b0, H⟩ | ⟨c4b0, H⟩ := Xit H
 ·obtain ⟨c5b0, H⟩ := Xid H
  obtain ⟨t13, A6, H⟩ := Xbi H
  try dsimp only at H
  have HC7 := Am H
  clear H
  obtain ⟨Z8_0, Z8_1, Z8_2⟩ := Xc3 B12
  obtain ⟨ad14, A224_4, c224_4, e14, p14, q14, hx14_0, hx14_1, hx14_2, hx14_3, hx14_4, HC14_4, HR14_4⟩ := at_B113 HR0_2 x5_1 Xa Xa HB
  cases e14
  go_upto_if 20 with ((with_reducible refine gate_callee (f := 104) rfl ?_); refine Xgo 20 Tryz.func104 #[.slice A224_4 ((rd_T113 l0_2 x5_1).f4).length c224_4, .int .i64 a1] ?_; (with_reducible refine (spec_l02Has.calls k1 _ _ ((rd_T113 l0_2 x5_1).f4) a1 t13 _ ?s1 ?s2 A6.out).mono ?_); (case s1 => exact Xc HR14_4); (case s2 => exact HC14_4.out); rintro e w' ⟨rfl, ⟨nd, rfl⟩⟩; refine ⟨_, rfl, ?_⟩)
  have H := HC7.out
  clear HC7
  by_cases c9 : t13 = true
  ·subst c9
   try rw [if_pos rfl] at H
   obtain rfl := Xsi H
   obtain ⟨Z10_0, Z10_1, Z10_2⟩ := Xc3 B12
   obtain ⟨ad15, A226_4, c226_4, e15, p15, q15, hx15_0, hx15_1, hx15_2, hx15_3, hx15_4, HC15_4, HR15_4⟩ := at_B113 HR0_2 x5_1 Xa Xa HB
   obtain rfl : ad14 = ad15 := (by injection e15)
   go_wp2
   go_ret
   exact ⟨Xe, Xi⟩
  replace c9 := Xbf c9
  subst c9
  try rw [if_neg Xft] at H
  have H' := Am H
  clear H
  go_wp2
  go_roundg k1
  case measure => have := HK1.out; omega
  case rel => exact ⟨(wrap64 (x5_1 + 1)), Xr, H', Xk1, B12, ⟨Xi⟩⟩
 obtain rfl := Xsi H
 obtain ⟨Z11_0, Z11_1, Z11_2⟩ := Xc3 B12
 go_wp2
 go_ret
 exact ⟨Xe, Xi⟩
mutual
def spec_l02Reach.l0 : Nat → Int → Int → Int → List (S113) → Option (Bool)
 | 0, _, _, _, _ => none
 | k + 1, x3, x228000, x228001, x228002 => if x3 < (x228002.length : Int) then (if 0 ≤ x3 then (spec_l02Reach.l1 k x3 ((rd_T113 x228002 x3).f0) 0 x228000 x228001 x228002) else (none)) else (some true)
def spec_l02Reach.l1 : Nat → Int → Int → Int → Int → Int → List (S113) → Option (Bool)
 | 0, _, _, _, _, _, _ => none
 | k + 1, x3, x4, x5, x228000, x228001, x228002 => if x4 = x228000 then (spec_l02Reach.l0 k (wrap64 (x3 + 1)) x228000 x228001 x228002) else (if x4 > 0 then (if x5 ≤ (x228002.length : Int) then ((spec_l02Parent.f k x228000 x228001 x228002 x4).bind fun t10 => (spec_l02Reach.l1 k x3 t10 (wrap64 (x5 + 1)) x228000 x228001 x228002)) else (some false)) else (some false))
end
def spec_l02Reach.f (k : Nat) (a0_0 : Int) (a0_1 : Int) (l0_2 : List (S113)) : Option (Bool) := spec_l02Reach.l0 k 0 a0_0 a0_1 l0_2
theorem spec_l02Reach.calls (k : Nat) (a0_0 : Int) (a0_1 : Int) (A0_2 : Option Addr) (c0_2 : Nat) (l0_2 : List (S113)) (r : Bool) (w : World) (hr0_2 : Kd.C k113 w A0_2 l0_2.length l0_2) (hc0_2 : l0_2.length ≤ c0_2) (h : spec_l02Reach.f k a0_0 a0_1 l0_2 = some r) :
  Calls Tryz.prog 170 #[.agg #[.int .i64 a0_0, .int .i64 a0_1, .slice A0_2 l0_2.length c0_2]] w fun e w' => e = .returned (.bool r) ∧ Below w.heap.size w w' := by
 have hu35 := Tryz.underlying35
 have HR0_2 := Am hr0_2
 have HC0_2 := Am hc0_2
 clear hr0_2 hc0_2
 have HB := Am (Below.refl w.heap.size w)
 have H : (spec_l02Reach.l0 k 0 a0_0 a0_1 l0_2) = some r := h
 clear h
 have H' := Am H
 clear H
 go_enter Tryz.func170, Tryz.ntmps170
 go_wp2_with (first | ((with_reducible refine gate_dst (N := 1) rfl ?_); (try (refine gate_guard (by rfl) ?_; dsimp only)); refine Xbx 1 #[.int .i64 a0_0, .int .i64 a0_1, .slice A0_2 l0_2.length c0_2] 35 ?_; intro gb16 hg w2 B16 GE16 hb; replace HB := Xhb hb; clear hb hg))
 go_loopg [3] k (fun kq v3 w' => ∃ (x3_1 : Int), v3 = .int .i64 x3_1 ∧ Aside0 (spec_l02Reach.l0 kq x3_1 a0_0 a0_1 l0_2 = some r) ∧ Aside0 (kq ≤ k) ∧ Aside0 (w'.heap[gb16]? = some (.cells #[.int .i64 a0_0, .int .i64 a0_1, (.slice A0_2 l0_2.length c0_2)] 35 (0, 0))) ∧ Aside0 (Below w.heap.size w w'))
 case atStart => exact ⟨(0), Xr, H', Xkr, B16, ⟨Xi⟩⟩
 clear H'
 obtain ⟨x3_1, rfl, HA, HK1, B16, HB⟩ := hrel
 cases gk with | zero => cases HA.out | succ k1 => ?_
 have H := HA.out
 clear HA
 simp only [spec_l02Reach.l0] at H
 obtain ⟨c3b0, H⟩ | ⟨c3b0, H⟩ := Xit H
 ·obtain ⟨c4b0, H⟩ := Xid H
  have H' := Am H
  clear H
  obtain ⟨Z5_0, Z5_1, Z5_2⟩ := Xc3 B16
  obtain ⟨ad17, A228_4, c228_4, e17, p17, q17, hx17_0, hx17_1, hx17_2, hx17_3, hx17_4, HC17_4, HR17_4⟩ := at_B113 HR0_2 x3_1 Xa Xa HB
  cases e17
  go_wp2
  go_loopg [4, 5] k1 (fun kq v4 v5 w' => ∃ (x4_2 : Int) (x5_2 : Int), v4 = .int .i64 x4_2 ∧ v5 = .int .i64 x5_2 ∧ Aside0 (spec_l02Reach.l1 kq x3_1 x4_2 x5_2 a0_0 a0_1 l0_2 = some r) ∧ Aside0 (kq ≤ k1) ∧ Aside0 (w'.heap[gb16]? = some (.cells #[.int .i64 a0_0, .int .i64 a0_1, (.slice (some ad17) l0_2.length c0_2)] 35 (0, 0))) ∧ Aside0 (Below w.heap.size w w'))
  case atStart => exact ⟨((rd_T113 l0_2 x3_1).f0), (0), Xr, Xr, H', Xkr, B16, ⟨Xi⟩⟩
  clear H'
  (try clear c3); (try clear c3b0); (try clear c4); (try clear c4b0); (try clear Z5_0); (try clear Z5_1); (try clear Z5_2); (try clear hx17_0); (try clear hx17_1); (try clear hx17_2); (try clear hx17_3); (try clear hx17_4); (try clear p17); (try clear q17)
  obtain ⟨x4_2, x5_2, rfl, rfl, HA, HK2, B16, HB⟩ := hrel
  cases gk with | zero => cases HA.out | succ k2 => ?_
  have H := HA.out
  clear HA
  simp only [spec_l02Reach.l1] at H
  obtain ⟨c6, H⟩ | ⟨c6, H⟩ := Xiu H
  ·have c6b0 : (x4_2 == a0_0) = true := beq_iff_eq.mpr c6
   have c6b1 : (x4_2 != a0_0) = false := bne_eq_false_iff_eq.mpr c6
   clear c6
   have H' := Am H
   clear H
   obtain ⟨Z7_0, Z7_1, Z7_2⟩ := Xc3 B16
   go_wp2
   go_roundg k2
   case measure => have := HK1.out; have := HK2.out; omega
   case rel => exact ⟨(wrap64 (x3_1 + 1)), Xr, H', ⟨by have := HK1.out; have := HK2.out; omega⟩, B16, ⟨Xi⟩⟩
  have c6b0 : (x4_2 == a0_0) = false := beq_eq_false_iff_ne.mpr c6
  have c6b1 : (x4_2 != a0_0) = true := bne_iff_ne.mpr c6
  obtain ⟨c8, H⟩ | ⟨c8, H⟩ := Xiu H
  ·have c8b0 : decide (0 < x4_2) = true := decide_eq_true c8
   clear c8
   obtain ⟨c9b0, H⟩ | ⟨c9b0, H⟩ := Xit H
   ·obtain ⟨t18, A10, H⟩ := Xbi H
    try dsimp only at H
    have H' := Am H
    clear H
    obtain ⟨Z11_0, Z11_1, Z11_2⟩ := Xc3 B16
    go_wp2_with (first | ((with_reducible refine gate_callee (f := 166) rfl ?_); refine Xgo 36 Tryz.func166 #[.agg #[.int .i64 a0_0, .int .i64 a0_1, .slice (some ad17) l0_2.length c0_2], .int .i64 x4_2] ?_; (with_reducible refine (spec_l02Parent.calls k2 a0_0 a0_1 _ _ l0_2 x4_2 t18 _ ?s1 ?s2 A10.out).mono ?_); (case s1 => exact Xc HR0_2); (case s2 => exact HC0_2.out); rintro e w12 ⟨rfl, hb⟩; refine ⟨_, rfl, ?_⟩; replace B16 := Xbb B16 hb; replace HB := Xhb hb; clear hb))
    go_roundg k2
    case measure => have := HK1.out; have := HK2.out; omega
    case rel => exact ⟨(t18), (wrap64 (x5_2 + 1)), Xr, Xr, H', ⟨by have := HK1.out; have := HK2.out; omega⟩, B16, ⟨Xi⟩⟩
   obtain rfl := Xsi H
   obtain ⟨Z13_0, Z13_1, Z13_2⟩ := Xc3 B16
   go_wp2
   go_ret
   exact ⟨Xe, Xi⟩
  have c8b0 : decide (0 < x4_2) = false := decide_eq_false c8
  clear c8
  obtain rfl := Xsi H
  obtain ⟨Z14_0, Z14_1, Z14_2⟩ := Xc3 B16
  go_wp2
  go_ret
  exact ⟨Xe, Xi⟩
 obtain rfl := Xsi H
 obtain ⟨Z15_0, Z15_1, Z15_2⟩ := Xc3 B16
 go_wp2
 go_ret
 exact ⟨Xe, Xi⟩
def spec_l02OK.f (k : Nat) (a0_0 : Int) (a0_1 : Int) (l0_2 : List (S113)) : Option (Bool) := (spec_l01In.f (l0_2.length : Int) 1 40).bind fun t10 => (if t10 = true then ((spec_l01In.f a0_1 2 999999).bind fun t11 => (if t11 = true then ((spec_l02Nodes.f k a0_0 a0_1 l0_2).bind fun t12 => (if t12 = true then ((spec_l02Reach.f k a0_0 a0_1 l0_2).bind fun t13 => (if t13 = true then ((spec_l02Deep.f k a0_0 a0_1 l0_2 a0_0 6).bind fun t14 => (some (decide (t14 ≤ 6)))) else (some false))) else (some false))) else (some false))) else (some false))
theorem spec_l02OK.calls (k : Nat) (a0_0 : Int) (a0_1 : Int) (A0_2 : Option Addr) (c0_2 : Nat) (l0_2 : List (S113)) (r : Bool) (w : World) (hr0_2 : Kd.C k113 w A0_2 l0_2.length l0_2) (hc0_2 : l0_2.length ≤ c0_2) (h : spec_l02OK.f k a0_0 a0_1 l0_2 = some r) :
  Calls Tryz.prog 143 #[.agg #[.int .i64 a0_0, .int .i64 a0_1, .slice A0_2 l0_2.length c0_2]] w fun e w' => e = .returned (.bool r) ∧ Below w.heap.size w w' := by
 have hu35 := Tryz.underlying35
 have HR0_2 := Am hr0_2
 have HC0_2 := Am hc0_2
 clear hr0_2 hc0_2
 have HB := Am (Below.refl w.heap.size w)
 have H : ((spec_l01In.f (l0_2.length : Int) 1 40).bind fun t27 => (if t27 = true then ((spec_l01In.f a0_1 2 999999).bind fun t28 => (if t28 = true then ((spec_l02Nodes.f k a0_0 a0_1 l0_2).bind fun t29 => (if t29 = true then ((spec_l02Reach.f k a0_0 a0_1 l0_2).bind fun t30 => (if t30 = true then ((spec_l02Deep.f k a0_0 a0_1 l0_2 a0_0 6).bind fun t31 => (some (decide (t31 ≤ 6)))) else (some false))) else (some false))) else (some false))) else (some false))) = some r := h
 clear h
 have HC2 := Am H
 clear H
 go_enter Tryz.func143, Tryz.ntmps143
 go_upto_region 1 with ((with_reducible refine gate_dst (N := 1) rfl ?_); refine Xbx 1 #[.int .i64 a0_0, .int .i64 a0_1, .slice A0_2 l0_2.length c0_2] 35 ?_; intro gb32 hg w3 B32 GE32 hb; replace HB := Xhb hb; clear hb hg)
 have H := HC2.out
 clear HC2
 obtain ⟨t27, A4, H⟩ := Xbi H
 try dsimp only at H
 by_cases c5 : t27 = true
 ·subst c5
  try rw [if_pos rfl] at H
  obtain ⟨t28, A6, H⟩ := Xbi H
  try dsimp only at H
  by_cases c7 : t28 = true
  ·subst c7
   try rw [if_pos rfl] at H
   obtain ⟨t29, A8, H⟩ := Xbi H
   try dsimp only at H
   by_cases c9 : t29 = true
   ·subst c9
    try rw [if_pos rfl] at H
    obtain ⟨t30, A10, H⟩ := Xbi H
    try dsimp only at H
    by_cases c11 : t30 = true
    ·subst c11
     try rw [if_pos rfl] at H
     obtain ⟨t31, A12, H⟩ := Xbi H
     try dsimp only at H
     obtain rfl := Xsi H
     obtain ⟨Z13_0, Z13_1, Z13_2⟩ := Xc3 B32
     go_wp2_with (first | ((with_reducible refine gate_callee (f := 88) rfl ?_); refine Xgo 6 Tryz.func88 #[.int .i64 (l0_2.length : Int), .int .i64 1, .int .i64 40] ?_; (with_reducible refine (spec_l01In.calls (l0_2.length : Int) 1 40 true _ A4.out).mono ?_); rintro e w' ⟨rfl, ⟨nd, rfl⟩⟩; refine ⟨_, rfl, ?_⟩) | (go_at_call 88; (with_reducible refine (spec_l01In.calls a0_1 2 999999 true _ A6.out).mono ?_); rintro e w' ⟨rfl, ⟨nd, rfl⟩⟩) | (go_at_call 169; (with_reducible refine (spec_l02Nodes.calls k a0_0 a0_1 _ _ l0_2 true _ ?s1 ?s2 A8.out).mono ?_); (case s1 => exact Xc HR0_2); (case s2 => exact HC0_2.out); rintro e w14 ⟨rfl, hb⟩; replace B32 := Xbb B32 hb; replace HB := Xhb hb; clear hb; obtain ⟨Z15_0, Z15_1, Z15_2⟩ := Xc3 B32) | (go_at_call 170; (with_reducible refine (spec_l02Reach.calls k a0_0 a0_1 _ _ l0_2 true _ ?s1 ?s2 A10.out).mono ?_); (case s1 => exact Xc HR0_2); (case s2 => exact HC0_2.out); rintro e w16 ⟨rfl, hb⟩; replace B32 := Xbb B32 hb; replace HB := Xhb hb; clear hb; obtain ⟨Z17_0, Z17_1, Z17_2⟩ := Xc3 B32) | (go_at_call 158; (with_reducible refine (spec_l02Deep.calls k a0_0 a0_1 _ _ l0_2 a0_0 6 t31 _ ?s1 ?s2 A12.out).mono ?_); (case s1 => exact Xc HR0_2); (case s2 => exact HC0_2.out); rintro e w18 ⟨rfl, hb⟩; replace B32 := Xbb B32 hb; replace HB := Xhb hb; clear hb))
     go_ret
     exact ⟨Xe, Xi⟩
    replace c11 := Xbf c11
    subst c11
    try rw [if_neg Xft] at H
    obtain rfl := Xsi H
    obtain ⟨Z19_0, Z19_1, Z19_2⟩ := Xc3 B32
    go_wp2_with (first | ((with_reducible refine gate_callee (f := 88) rfl ?_); refine Xgo 6 Tryz.func88 #[.int .i64 (l0_2.length : Int), .int .i64 1, .int .i64 40] ?_; (with_reducible refine (spec_l01In.calls (l0_2.length : Int) 1 40 true _ A4.out).mono ?_); rintro e w' ⟨rfl, ⟨nd, rfl⟩⟩; refine ⟨_, rfl, ?_⟩) | (go_at_call 88; (with_reducible refine (spec_l01In.calls a0_1 2 999999 true _ A6.out).mono ?_); rintro e w' ⟨rfl, ⟨nd, rfl⟩⟩) | (go_at_call 169; (with_reducible refine (spec_l02Nodes.calls k a0_0 a0_1 _ _ l0_2 true _ ?s1 ?s2 A8.out).mono ?_); (case s1 => exact Xc HR0_2); (case s2 => exact HC0_2.out); rintro e w20 ⟨rfl, hb⟩; replace B32 := Xbb B32 hb; replace HB := Xhb hb; clear hb; obtain ⟨Z21_0, Z21_1, Z21_2⟩ := Xc3 B32) | (go_at_call 170; (with_reducible refine (spec_l02Reach.calls k a0_0 a0_1 _ _ l0_2 false _ ?s1 ?s2 A10.out).mono ?_); (case s1 => exact Xc HR0_2); (case s2 => exact HC0_2.out); rintro e w22 ⟨rfl, hb⟩; replace B32 := Xbb B32 hb; replace HB := Xhb hb; clear hb))
    go_ret
    exact ⟨Xe, Xi⟩
   replace c9 := Xbf c9
   subst c9
   try rw [if_neg Xft] at H
   obtain rfl := Xsi H
   obtain ⟨Z23_0, Z23_1, Z23_2⟩ := Xc3 B32
   go_wp2_with (first | ((with_reducible refine gate_callee (f := 88) rfl ?_); refine Xgo 6 Tryz.func88 #[.int .i64 (l0_2.length : Int), .int .i64 1, .int .i64 40] ?_; (with_reducible refine (spec_l01In.calls (l0_2.length : Int) 1 40 true _ A4.out).mono ?_); rintro e w' ⟨rfl, ⟨nd, rfl⟩⟩; refine ⟨_, rfl, ?_⟩) | (go_at_call 88; (with_reducible refine (spec_l01In.calls a0_1 2 999999 true _ A6.out).mono ?_); rintro e w' ⟨rfl, ⟨nd, rfl⟩⟩) | (go_at_call 169; (with_reducible refine (spec_l02Nodes.calls k a0_0 a0_1 _ _ l0_2 false _ ?s1 ?s2 A8.out).mono ?_); (case s1 => exact Xc HR0_2); (case s2 => exact HC0_2.out); rintro e w24 ⟨rfl, hb⟩; replace B32 := Xbb B32 hb; replace HB := Xhb hb; clear hb))
   go_ret
   exact ⟨Xe, Xi⟩
  replace c7 := Xbf c7
  subst c7
  try rw [if_neg Xft] at H
  obtain rfl := Xsi H
  obtain ⟨Z25_0, Z25_1, Z25_2⟩ := Xc3 B32
  go_wp2_with (first | ((with_reducible refine gate_callee (f := 88) rfl ?_); refine Xgo 6 Tryz.func88 #[.int .i64 (l0_2.length : Int), .int .i64 1, .int .i64 40] ?_; (with_reducible refine (spec_l01In.calls (l0_2.length : Int) 1 40 true _ A4.out).mono ?_); rintro e w' ⟨rfl, ⟨nd, rfl⟩⟩; refine ⟨_, rfl, ?_⟩) | (go_at_call 88; (with_reducible refine (spec_l01In.calls a0_1 2 999999 false _ A6.out).mono ?_); rintro e w' ⟨rfl, ⟨nd, rfl⟩⟩))
  go_ret
  exact ⟨Xe, Xi⟩
 replace c5 := Xbf c5
 subst c5
 try rw [if_neg Xft] at H
 obtain rfl := Xsi H
 obtain ⟨Z26_0, Z26_1, Z26_2⟩ := Xc3 B32
 go_wp2_with (first | ((with_reducible refine gate_callee (f := 88) rfl ?_); refine Xgo 6 Tryz.func88 #[.int .i64 (l0_2.length : Int), .int .i64 1, .int .i64 40] ?_; (with_reducible refine (spec_l01In.calls (l0_2.length : Int) 1 40 false _ A4.out).mono ?_); rintro e w' ⟨rfl, ⟨nd, rfl⟩⟩; refine ⟨_, rfl, ?_⟩))
 go_ret
 exact ⟨Xe, Xi⟩
def spec_l07Less.f (a0_0 : Int) (a0_1 : Int) (a0_2 : Int) (a1_0 : Int) (a1_1 : Int) (a1_2 : Int) : Option (Bool) := if a0_0 < a1_0 then (some true) else (if a0_0 = a1_0 then (some (decide (a0_1 < a1_1))) else (some false))
theorem spec_l07Less.calls (a0_0 : Int) (a0_1 : Int) (a0_2 : Int) (a1_0 : Int) (a1_1 : Int) (a1_2 : Int) (r : Bool) (w : World) (h : spec_l07Less.f a0_0 a0_1 a0_2 a1_0 a1_1 a1_2 = some r) :
  Calls Tryz.prog 139 #[.agg #[.int .i64 a0_0, .int .i64 a0_1, .int .i64 a0_2], .agg #[.int .i64 a1_0, .int .i64 a1_1, .int .i64 a1_2]] w fun e w' => e = .returned (.bool r) ∧ Below w.heap.size w w' := by
 have hu39 := Tryz.underlying39
 have HB := Am (Below.refl w.heap.size w)
 have H : (if a0_0 < a1_0 then (some true) else (if a0_0 = a1_0 then (some (decide (a0_1 < a1_1))) else (some false))) = some r := h
 clear h
 have HC3 := Am H
 clear H
 go_enter Tryz.func139, Tryz.ntmps139
 go_upto_region 1 with (first | ((with_reducible refine gate_dst (N := 2) rfl ?_); refine Xbx 2 #[.int .i64 a0_0, .int .i64 a0_1, .int .i64 a0_2] 39 ?_; intro gb17 hg w4 B17 GE17 hb; replace HB := Xhb hb; clear hb hg) | ((with_reducible refine gate_dst (N := 3) rfl ?_); refine Xbx 3 #[.int .i64 a1_0, .int .i64 a1_1, .int .i64 a1_2] 39 ?_; intro gb18 hg w5 B18 GE18 hb; replace HB := Xhb hb; have NB17_18 := Xnb hg B17; have NB18_17 := Xns NB17_18; replace B17 := Xbb B17 hb; clear hb hg))
 have H := HC3.out
 clear HC3
 obtain ⟨c6b0, H⟩ | ⟨c6b0, H⟩ := Xit H
 ·obtain rfl := Xsi H
  have hnb7 := NB17_18.out
  have hnc7 := NB18_17.out
  obtain ⟨Z8_0, Z8_1, Z8_2⟩ := Xc3 B17
  obtain ⟨Z9_0, Z9_1, Z9_2⟩ := Xc3 B18
  go_wp2
  go_ret
  exact ⟨Xe, Xi⟩
 obtain ⟨c10, H⟩ | ⟨c10, H⟩ := Xiu H
 ·have c10b0 : (a0_0 == a1_0) = true := beq_iff_eq.mpr c10
  have c10b1 : (a0_0 != a1_0) = false := bne_eq_false_iff_eq.mpr c10
  clear c10
  obtain rfl := Xsi H
  have hnb11 := NB17_18.out
  have hnc11 := NB18_17.out
  obtain ⟨Z12_0, Z12_1, Z12_2⟩ := Xc3 B17
  obtain ⟨Z13_0, Z13_1, Z13_2⟩ := Xc3 B18
  go_wp2
  go_ret
  exact ⟨Xe, Xi⟩
 have c10b0 : (a0_0 == a1_0) = false := beq_eq_false_iff_ne.mpr c10
 have c10b1 : (a0_0 != a1_0) = true := bne_iff_ne.mpr c10
 obtain rfl := Xsi H
 have hnb14 := NB17_18.out
 have hnc14 := NB18_17.out
 obtain ⟨Z15_0, Z15_1, Z15_2⟩ := Xc3 B17
 obtain ⟨Z16_0, Z16_1, Z16_2⟩ := Xc3 B18
 go_wp2
 go_ret
 exact ⟨Xe, Xi⟩
def spec_l07Mode.f (a0 : Int) : Option (Bool) := (spec_l01In.f a0 1 5).bind fun t10 => (some t10)
theorem spec_l07Mode.calls (a0 : Int) (r : Bool) (w : World) (h : spec_l07Mode.f a0 = some r) :
  Calls Tryz.prog 46 #[.int .i64 a0] w fun e w' => e = .returned (.bool r) ∧ Drawn0 w w' := by
 have H : ((spec_l01In.f a0 1 5).bind fun t10 => (some t10)) = some r := h
 clear h
 obtain ⟨t10, A2, H⟩ := Xbi H
 try dsimp only at H
 obtain rfl := Xsi H
 go_enter Tryz.func46, Tryz.ntmps46
 go_wp2_with (first | ((with_reducible refine gate_callee (f := 88) rfl ?_); refine Xgo 4 Tryz.func88 #[.int .i64 a0, .int .i64 1, .int .i64 5] ?_; (with_reducible refine (spec_l01In.calls a0 1 5 t10 _ A2.out).mono ?_); rintro e w' ⟨rfl, ⟨nd, rfl⟩⟩; refine ⟨_, rfl, ?_⟩))
 go_ret
 exact ⟨Xr, Xdr⟩
def spec_l07Hold.f (k : Nat) (a0_0 : Int) (a0_1 : Int) (l0_2 : List (S113)) (a1_0 : Int) (a1_1 : Int) (a1_2 : Int) : Option (Bool) := (spec_l01In.f a1_0 1 999).bind fun t10 => (if t10 = true then ((spec_l07Mode.f a1_2).bind fun t11 => (if t11 = true then ((spec_l02At.f k a0_0 a0_1 l0_2 a1_1).bind fun t12 => (some (decide (t12 ≥ 0)))) else (some false))) else (some false))
theorem spec_l07Hold.calls (k : Nat) (a0_0 : Int) (a0_1 : Int) (A0_2 : Option Addr) (c0_2 : Nat) (l0_2 : List (S113)) (a1_0 : Int) (a1_1 : Int) (a1_2 : Int) (r : Bool) (w : World) (hr0_2 : Kd.C k113 w A0_2 l0_2.length l0_2) (hc0_2 : l0_2.length ≤ c0_2) (h : spec_l07Hold.f k a0_0 a0_1 l0_2 a1_0 a1_1 a1_2 = some r) :
  Calls Tryz.prog 171 #[.agg #[.int .i64 a0_0, .int .i64 a0_1, .slice A0_2 l0_2.length c0_2], .agg #[.int .i64 a1_0, .int .i64 a1_1, .int .i64 a1_2]] w fun e w' => e = .returned (.bool r) ∧ Below w.heap.size w w' := by
 have hu35 := Tryz.underlying35
 have hu39 := Tryz.underlying39
 have HR0_2 := Am hr0_2
 have HC0_2 := Am hc0_2
 clear hr0_2 hc0_2
 have HB := Am (Below.refl w.heap.size w)
 have H : ((spec_l01In.f a1_0 1 999).bind fun t19 => (if t19 = true then ((spec_l07Mode.f a1_2).bind fun t20 => (if t20 = true then ((spec_l02At.f k a0_0 a0_1 l0_2 a1_1).bind fun t21 => (some (decide (t21 ≥ 0)))) else (some false))) else (some false))) = some r := h
 clear h
 have HC3 := Am H
 clear H
 go_enter Tryz.func171, Tryz.ntmps171
 go_upto_region 1 with (first | ((with_reducible refine gate_dst (N := 2) rfl ?_); refine Xbx 2 #[.int .i64 a0_0, .int .i64 a0_1, .slice A0_2 l0_2.length c0_2] 35 ?_; intro gb22 hg w4 B22 GE22 hb; replace HB := Xhb hb; clear hb hg) | ((with_reducible refine gate_dst (N := 3) rfl ?_); refine Xbx 3 #[.int .i64 a1_0, .int .i64 a1_1, .int .i64 a1_2] 39 ?_; intro gb23 hg w5 B23 GE23 hb; replace HB := Xhb hb; have NB22_23 := Xnb hg B22; have NB23_22 := Xns NB22_23; replace B22 := Xbb B22 hb; clear hb hg))
 have H := HC3.out
 clear HC3
 obtain ⟨t19, A6, H⟩ := Xbi H
 try dsimp only at H
 by_cases c7 : t19 = true
 ·subst c7
  try rw [if_pos rfl] at H
  obtain ⟨t20, A8, H⟩ := Xbi H
  try dsimp only at H
  by_cases c9 : t20 = true
  ·subst c9
   try rw [if_pos rfl] at H
   obtain ⟨t21, A10, H⟩ := Xbi H
   try dsimp only at H
   obtain rfl := Xsi H
   have hnb11 := NB23_22.out
   have hnc11 := NB22_23.out
   obtain ⟨Z12_0, Z12_1, Z12_2⟩ := Xc3 B23
   go_wp2_with (first | ((with_reducible refine gate_callee (f := 88) rfl ?_); refine Xgo 7 Tryz.func88 #[.int .i64 a1_0, .int .i64 1, .int .i64 999] ?_; (with_reducible refine (spec_l01In.calls a1_0 1 999 true _ A6.out).mono ?_); rintro e w' ⟨rfl, ⟨nd, rfl⟩⟩; refine ⟨_, rfl, ?_⟩) | (go_at_call 46; (with_reducible refine (spec_l07Mode.calls a1_2 true _ A8.out).mono ?_); rintro e w' ⟨rfl, ⟨nd, rfl⟩⟩; obtain ⟨Z13_0, Z13_1, Z13_2⟩ := Xc3 B22) | (go_at_call 89; (with_reducible refine (spec_l02At.calls k a0_0 a0_1 _ _ l0_2 a1_1 t21 _ ?s1 ?s2 A10.out).mono ?_); (case s1 => exact Xc HR0_2); (case s2 => exact HC0_2.out); rintro e w14 ⟨rfl, hb⟩; replace B22 := Xbb B22 hb; replace B23 := Xbb B23 hb; replace HB := Xhb hb; clear hb))
   go_ret
   exact ⟨Xe, Xi⟩
  replace c9 := Xbf c9
  subst c9
  try rw [if_neg Xft] at H
  obtain rfl := Xsi H
  have hnb15 := NB23_22.out
  have hnc15 := NB22_23.out
  obtain ⟨Z16_0, Z16_1, Z16_2⟩ := Xc3 B23
  go_wp2_with (first | ((with_reducible refine gate_callee (f := 88) rfl ?_); refine Xgo 7 Tryz.func88 #[.int .i64 a1_0, .int .i64 1, .int .i64 999] ?_; (with_reducible refine (spec_l01In.calls a1_0 1 999 true _ A6.out).mono ?_); rintro e w' ⟨rfl, ⟨nd, rfl⟩⟩; refine ⟨_, rfl, ?_⟩) | (go_at_call 46; (with_reducible refine (spec_l07Mode.calls a1_2 false _ A8.out).mono ?_); rintro e w' ⟨rfl, ⟨nd, rfl⟩⟩))
  go_ret
  exact ⟨Xe, Xi⟩
 replace c7 := Xbf c7
 subst c7
 try rw [if_neg Xft] at H
 obtain rfl := Xsi H
 have hnb17 := NB23_22.out
 have hnc17 := NB22_23.out
 obtain ⟨Z18_0, Z18_1, Z18_2⟩ := Xc3 B23
 go_wp2_with (first | ((with_reducible refine gate_callee (f := 88) rfl ?_); refine Xgo 7 Tryz.func88 #[.int .i64 a1_0, .int .i64 1, .int .i64 999] ?_; (with_reducible refine (spec_l01In.calls a1_0 1 999 false _ A6.out).mono ?_); rintro e w' ⟨rfl, ⟨nd, rfl⟩⟩; refine ⟨_, rfl, ?_⟩))
 go_ret
 exact ⟨Xe, Xi⟩
def spec_l07Holds.l0 : Nat → List (S39) → Int → Int → Int → List (S113) → Option (Bool)
 | 0, _, _, _, _, _ => none
 | k + 1, x1, x5, x245000, x245001, x245002 => if x5 < (x1.length : Int) then (if 0 ≤ x5 then ((spec_l07Hold.f k x245000 x245001 x245002 ((rd_T39 x1 x5).f0) ((rd_T39 x1 x5).f1) ((rd_T39 x1 x5).f2)).bind fun t10 => (if t10 = true then (if x5 > 0 then (if 0 ≤ (wrap64 (x5 - 1)) then (if (wrap64 (x5 - 1)) < (x1.length : Int) then ((spec_l07Less.f ((rd_T39 x1 (wrap64 (x5 - 1))).f0) ((rd_T39 x1 (wrap64 (x5 - 1))).f1) ((rd_T39 x1 (wrap64 (x5 - 1))).f2) ((rd_T39 x1 x5).f0) ((rd_T39 x1 x5).f1) ((rd_T39 x1 x5).f2)).bind fun t11 => (if t11 = true then (spec_l07Holds.l0 k x1 (wrap64 (x5 + 1)) x245000 x245001 x245002) else (some false))) else (none)) else (none)) else (spec_l07Holds.l0 k x1 (wrap64 (x5 + 1)) x245000 x245001 x245002)) else (some false))) else (none)) else (some true)
def spec_l07Holds.f (k : Nat) (a0_0 : Int) (a0_1 : Int) (l0_2 : List (S113)) (l1 : List (S39)) : Option (Bool) := if (l1.length : Int) > 30 then (some false) else (spec_l07Holds.l0 k l1 0 a0_0 a0_1 l0_2)
def spec_l07Holds.T6 : Bool × List (List Nat × List Nat) := (true, [([], []), ([], []), ([], []), ([1, 2], [1, 2]), ([3], [3]), ([0, 4], [0, 4]), ([5], [5]), ([6, 5], [6]), ([7], [7]), ([8, 7], [7, 8]), ([9, 7, 7], [7, 9]), ([10], [10]), ([10], [10]), ([12, 10], [10, 12]), ([11, 13, 10], [10, 11, 13]), ([14, 10], [10, 14]), ([10], [10]), ([10], [10]), ([16, 17, 10], [10, 16, 17]), ([18, 10], [10, 18]), ([15, 19, 10, 10], [10, 15, 19]), ([20, 10], [10, 20]), ([10, 21, 7], [7, 10, 21]), ([7, 22], [7, 22])])
def spec_l07Holds.B6 : List Nat := [0, 0, 0, 6, 14, 31, 63, 127, 255, 511, 1023, 2047, 2047, 6143, 16383, 32767, 2047, 2047, 198655, 460799, 1048575, 2097151, 4194303, 8388607]
theorem spec_l07Holds.tab6 : rtab .any (opsOf Tryz.f144 6) = spec_l07Holds.T6 := by kernel_rfl
theorem spec_l07Holds.bits6 : waitsOk spec_l07Holds.T6.2 spec_l07Holds.B6 = true := by kernel_rfl
theorem spec_l07Holds.calls (k : Nat) (a0_0 : Int) (a0_1 : Int) (A0_2 : Option Addr) (c0_2 : Nat) (l0_2 : List (S113)) (A1 : Option Addr) (c1 : Nat) (l1 : List (S39)) (r : Bool) (w : World) (hr0_2 : Kd.C k113 w A0_2 l0_2.length l0_2) (hc0_2 : l0_2.length ≤ c0_2) (hr1 : Kd.C k39 w A1 l1.length l1) (hc1 : l1.length ≤ c1) (h : spec_l07Holds.f k a0_0 a0_1 l0_2 l1 = some r) :
  Calls Tryz.prog 144 #[.agg #[.int .i64 a0_0, .int .i64 a0_1, .slice A0_2 l0_2.length c0_2], .slice A1 l1.length c1] w fun e w' => e = .returned (.bool r) ∧ Below w.heap.size w w' := by
 have hu35 := Tryz.underlying35
 have hu39 := Tryz.underlying39
 have HR0_2 := Am hr0_2
 have HC0_2 := Am hc0_2
 clear hr0_2 hc0_2
 have HR1 := Am hr1
 have HC1 := Am hc1
 clear hr1 hc1
 have HB := Am (Below.refl w.heap.size w)
 have H : (if (l1.length : Int) > 30 then (some false) else (spec_l07Holds.l0 k l1 0 a0_0 a0_1 l0_2)) = some r := h
 clear h
 have HC3 := Am H
 clear H
 go_enter Tryz.func144, Tryz.ntmps144
 go_upto_if 8 with ((with_reducible refine gate_dst (N := 2) rfl ?_); refine Xbx 2 #[.int .i64 a0_0, .int .i64 a0_1, .slice A0_2 l0_2.length c0_2] 35 ?_; intro gb24 hg w4 B24 GE24 hb; replace HB := Xhb hb; clear hb hg)
 have H := HC3.out
 clear HC3
 obtain ⟨c5, H⟩ | ⟨c5, H⟩ := Xiu H
 ·have c5b0 : decide (30 < (l1.length : Int)) = true := decide_eq_true c5
  have c5b1 : decide (30 < l1.length) = true := decide_eq_true (by omega)
  clear c5
  (first | rw [c5b0] | (simp only [i64_w, i32_w]; rw [c5b0]) | skip)
  obtain rfl := Xsi H
  go_wp2
  go_ret
  exact ⟨Xe, Xi⟩
 have c5b0 : decide (30 < (l1.length : Int)) = false := decide_eq_false c5
 have c5b1 : decide (30 < l1.length) = false := decide_eq_false (by omega)
 clear c5
 (first | rw [c5b0] | (simp only [i64_w, i32_w]; rw [c5b0]) | skip)
 have H' := Am H
 clear H
 go_wp2
 go_loopg [5] k (fun kq v5 w' => ∃ (x5_1 : Int), v5 = .int .i64 x5_1 ∧ Aside0 (spec_l07Holds.l0 kq l1 x5_1 a0_0 a0_1 l0_2 = some r) ∧ Aside0 (kq ≤ k) ∧ Aside0 (w'.heap[gb24]? = some (.cells #[.int .i64 a0_0, .int .i64 a0_1, (.slice A0_2 l0_2.length c0_2)] 35 (0, 0))) ∧ Aside0 (Below w.heap.size w w'))
 case atStart => exact ⟨(0), Xr, H', Xkr, B24, ⟨Xi⟩⟩
 clear H'
 (try clear c1); (try clear c5); (try clear c5b0); (try clear c5b1)
 obtain ⟨x5_1, rfl, HA, HK1, B24, HB⟩ := hrel
 cases gk with | zero => cases HA.out | succ k1 => ?_
 have H := HA.out
 clear HA
 simp only [spec_l07Holds.l0] at H
 obtain ⟨c6b0, H⟩ | ⟨c6b0, H⟩ := Xit H
 ·obtain ⟨c7b0, H⟩ := Xid H
  obtain ⟨t25, A8, H⟩ := Xbi H
  try dsimp only at H
  by_cases c9 : t25 = true
  ·subst c9
   try rw [if_pos rfl] at H
   obtain ⟨c10, H⟩ | ⟨c10, H⟩ := Xiu H
   ·have c10b0 : decide (0 < x5_1) = true := decide_eq_true c10
    clear c10
    obtain ⟨ji11, hji11⟩ : ∃ j_ : Int, (wrap64 (x5_1 - 1)) = j_ := ⟨_, rfl⟩
    replace H : (if 0 ≤ (ji11) then (if (ji11) < (l1.length : Int) then ((spec_l07Less.f ((rd_T39 l1 (ji11)).f0) ((rd_T39 l1 (ji11)).f1) ((rd_T39 l1 (ji11)).f2) ((rd_T39 l1 x5_1).f0) ((rd_T39 l1 x5_1).f1) ((rd_T39 l1 x5_1).f2)).bind fun t26 => (if t26 = true then (spec_l07Holds.l0 k1 l1 (wrap64 (x5_1 + 1)) a0_0 a0_1 l0_2) else (some false))) else (none)) else (none)) = some r := by first | (rw [hji11] at H; exact H) | (simp only [hji11] at H ⊢; exact H)
    (try rw [hji11] at A8)
    have hji11w : (IntKind.i64.wrap (x5_1 - 1)) = ji11 := (i64_w _).trans hji11
    obtain ⟨c12b0, H⟩ := Xid H
    obtain ⟨c13b0, H⟩ := Xid H
    obtain ⟨t26, A14, H⟩ := Xbi H
    try dsimp only at H
    have HC15 := Am H
    clear H
    try go_wp2_with (fail)
    replace B24 := Xbd B24
    replace HB := Xhd HB
    have p27 : 0 ≤ (x5_1 : Int) := Xo
    have q27 : x5_1 < (l1.length : Int) := Xo
    obtain ⟨ad27, e27, hx27_0, hx27_1, hx27_2⟩ := at_T39 HR1.out x5_1 p27 q27
    have hw245_2 := hx27_2
    have hw245_1 := hx27_1
    have hw245_0 := hx27_0
    cases e27
    replace hx27_0 := Xm HB hx27_0
    replace hx27_1 := Xm HB hx27_1
    replace hx27_2 := Xm HB hx27_2
    replace p27 := eq_true p27
    replace q27 := eq_true q27
    have p28 : 0 ≤ ((ji11) : Int) := Xo
    have q28 : (ji11) < (l1.length : Int) := Xo
    obtain ⟨ad28, e28, hx28_0, hx28_1, hx28_2⟩ := at_T39 HR1.out (ji11) p28 q28
    have hw247_2 := hx28_2
    have hw247_1 := hx28_1
    have hw247_0 := hx28_0
    obtain rfl : ad27 = ad28 := (by injection e28)
    replace hx28_0 := Xm HB hx28_0
    replace hx28_1 := Xm HB hx28_1
    replace hx28_2 := Xm HB hx28_2
    replace p28 := eq_true p28
    replace q28 := eq_true q28
    have p29 : 0 ≤ (x5_1 : Int) := Xo
    have q29 : x5_1 < (l1.length : Int) := Xo
    obtain ⟨ad29, e29, hx29_0, hx29_1, hx29_2⟩ := at_T39 HR1.out x5_1 p29 q29
    have hw248_2 := hx29_2
    have hw248_1 := hx29_1
    have hw248_0 := hx29_0
    obtain rfl : ad27 = ad29 := (by injection e29)
    replace hx29_0 := Xm HB hx29_0
    replace hx29_1 := Xm HB hx29_1
    replace hx29_2 := Xm HB hx29_2
    replace p29 := eq_true p29
    replace q29 := eq_true q29
    refine Sx 24 (fun w' => w'.cell? ⟨gb24, 0, none⟩ = some (.int .i64 a0_0) ∧ w'.cell? ⟨gb24, 1, none⟩ = some (.int .i64 a0_1) ∧ w'.cell? ⟨gb24, 2, none⟩ = some (.slice A0_2 l0_2.length c0_2) ∧ w'.cell? (ad27.add ((x5_1).toNat * 3)) = some (.int .i64 ((rd_T39 l1 x5_1).f0)) ∧ w'.cell? ⟨(ad27.add ((x5_1).toNat * 3)).block, (ad27.add ((x5_1).toNat * 3)).off + 1, none⟩ = some (.int .i64 ((rd_T39 l1 x5_1).f1)) ∧ w'.cell? ⟨(ad27.add ((x5_1).toNat * 3)).block, (ad27.add ((x5_1).toNat * 3)).off + 2, none⟩ = some (.int .i64 ((rd_T39 l1 x5_1).f2)) ∧ w'.cell? (ad27.add (((ji11)).toNat * 3)) = some (.int .i64 ((rd_T39 l1 (ji11)).f0)) ∧ w'.cell? ⟨(ad27.add (((ji11)).toNat * 3)).block, (ad27.add (((ji11)).toNat * 3)).off + 1, none⟩ = some (.int .i64 ((rd_T39 l1 (ji11)).f1)) ∧ w'.cell? ⟨(ad27.add (((ji11)).toNat * 3)).block, (ad27.add (((ji11)).toNat * 3)).off + 2, none⟩ = some (.int .i64 ((rd_T39 l1 (ji11)).f2)) ∧ w'.cell? (ad27.add ((x5_1).toNat * 3)) = some (.int .i64 ((rd_T39 l1 x5_1).f0)) ∧ w'.cell? ⟨(ad27.add ((x5_1).toNat * 3)).block, (ad27.add ((x5_1).toNat * 3)).off + 1, none⟩ = some (.int .i64 ((rd_T39 l1 x5_1).f1)) ∧ w'.cell? ⟨(ad27.add ((x5_1).toNat * 3)).block, (ad27.add ((x5_1).toNat * 3)).off + 2, none⟩ = some (.int .i64 ((rd_T39 l1 x5_1).f2))) ⟨Xk B24 0, Xk B24 1, Xk B24 2, Xn hw245_0, Xn hw245_1, Xn hw245_2, Xn hw247_0, Xn hw247_1, Xn hw247_2, Xn hw248_0, Xn hw248_1, Xn hw248_2⟩ (fun hHeld => ?_); refine with_tabW spec_l07Holds.tab6 spec_l07Holds.bits6 (fun HT_ HW_ => ?_)
    generalize wr.drew = w16 at B24 HB hx27_0 hx27_1 hx27_2 hx28_0 hx28_1 hx28_2 hx29_0 hx29_1 hx29_2 hHeld ⊢
    refine Pu 1 16 24 2 ?_
    refine Pu 2 17 24 6 ?_
    refine Pu 3 18 24 14 ?_
    refine Ta 0 15 24 15 ?_
    refine Ta 4 19 24 31 ?_
    refine On 5 20 24 63 (fun K hK => ?_)
    refine Gs Tryz.func171 #[.agg #[.int .i64 a0_0, .int .i64 a0_1, .slice A0_2 l0_2.length c0_2], .agg #[.int .i64 ((rd_T39 l1 x5_1).f0), .int .i64 ((rd_T39 l1 x5_1).f1), .int .i64 ((rd_T39 l1 x5_1).f2)]] ?_
    with_reducible refine (spec_l07Hold.calls k1 a0_0 a0_1 _ _ l0_2 ((rd_T39 l1 x5_1).f0) ((rd_T39 l1 x5_1).f1) ((rd_T39 l1 x5_1).f2) true _ ?s1 ?s2 A8.out).mono ?_
    (case s1 => exact Xc HR0_2)
    (case s2 => exact HC0_2.out)
    rintro e w17 ⟨rfl, hb⟩
    refine ⟨_, rfl, ?_⟩
    replace B24 := Xbb B24 hb
    replace HB := Xhb hb
    try clear hb
    try clear hb2
    try clear hk
    try clear hi
    refine hK.out _ _ ⟨Xk B24 0, Xk B24 1, Xk B24 2, Xn hw245_0, Xn hw245_1, Xn hw245_2, Xn hw247_0, Xn hw247_1, Xn hw247_2, Xn hw248_0, Xn hw248_1, Xn hw248_2⟩ (fun hHeld => ?_)
    clear hK K
    refine Xno ?_
    refine Pu 6 21 24 127 ?_
    refine Pu 7 22 24 255 ?_
    refine Pu 8 23 24 511 ?_
    refine Pu 9 24 24 1023 ?_
    refine Pu 10 25 24 2047 ?_
    refine Pu 11 26 24 4095 ?_
    refine Pu 12 27 24 8191 ?_
    refine Pu 13 28 24 16383 ?_
    refine Pu 14 29 24 32767 ?_
    refine Pu 16 31 24 98303 ?_
    refine Pu 17 32 24 229375 ?_
    refine Pu 18 33 24 491519 ?_
    refine Ta 15 30 24 524287 ?_
    refine Ta 19 34 24 1048575 ?_
    refine On 20 35 24 2097151 (fun K hK => ?_)
    refine goes_ Tryz.func139 (by kernel_rfl) rfl #[.agg #[.int .i64 ((rd_T39 l1 (ji11)).f0), .int .i64 ((rd_T39 l1 (ji11)).f1), .int .i64 ((rd_T39 l1 (ji11)).f2)], .agg #[.int .i64 ((rd_T39 l1 x5_1).f0), .int .i64 ((rd_T39 l1 x5_1).f1), .int .i64 ((rd_T39 l1 x5_1).f2)]] (by rfl) rfl rfl (by (try simp only [List.map_toArray, List.map_cons, List.map_nil]); first | done | (simp only [hji11]; rfl) | rfl | (simp only [List.length_drop, List.length_take]; rfl)) ?_
    with_reducible refine (spec_l07Less.calls ((rd_T39 l1 (ji11)).f0) ((rd_T39 l1 (ji11)).f1) ((rd_T39 l1 (ji11)).f2) ((rd_T39 l1 x5_1).f0) ((rd_T39 l1 x5_1).f1) ((rd_T39 l1 x5_1).f2) t26 _ A14.out).mono ?_
    rintro e w18 ⟨rfl, hb⟩
    refine ⟨_, rfl, ?_⟩
    replace B24 := Xbb B24 hb
    replace HB := Xhb hb
    try clear hb
    try clear hb2
    try clear hk
    try clear hi
    refine hK.out _ _ ⟨Xk B24 0, Xk B24 1, Xk B24 2, Xn hw245_0, Xn hw245_1, Xn hw245_2, Xn hw247_0, Xn hw247_1, Xn hw247_2, Xn hw248_0, Xn hw248_1, Xn hw248_2⟩ (fun hHeld => ?_)
    clear hK K
    refine Xno ?_
    refine Pu 21 36 24 4194303 ?_
    refine Pu 22 37 24 8388607 ?_
    refine Pu 23 38 24 16777215 ?_
    refine Dn ?_
    go_upto_if 38 with (fail)
    have H := HC15.out
    clear HC15
    by_cases c19 : t26 = true
    ·subst c19
     try rw [if_pos rfl] at H
     have H' := Am H
     clear H
     go_wp2
     go_roundg k1
     case measure => have := HK1.out; omega
     case rel => exact ⟨(wrap64 (x5_1 + 1)), Xr, H', Xk1, B24, ⟨Xi⟩⟩
    replace c19 := Xbf c19
    subst c19
    try rw [if_neg Xft] at H
    obtain rfl := Xsi H
    go_wp2
    go_ret
    exact ⟨by first | rfl | (simp [errW_none, errW_some] <;> rfl) | (simp only [← hji11]; first | rfl | (simp [errW_none, errW_some] <;> rfl)) | (simp [*, errW_none, errW_some] <;> rfl), Xi⟩
   have c10b0 : decide (0 < x5_1) = false := decide_eq_false c10
   clear c10
   have H' := Am H
   clear H
   try go_wp2_with (fail)
   replace B24 := Xbd B24
   replace HB := Xhd HB
   have p27 : 0 ≤ (x5_1 : Int) := Xo
   have q27 : x5_1 < (l1.length : Int) := Xo
   obtain ⟨ad27, e27, hx27_0, hx27_1, hx27_2⟩ := at_T39 HR1.out x5_1 p27 q27
   have hw245_2 := hx27_2
   have hw245_1 := hx27_1
   have hw245_0 := hx27_0
   cases e27
   replace hx27_0 := Xm HB hx27_0
   replace hx27_1 := Xm HB hx27_1
   replace hx27_2 := Xm HB hx27_2
   replace p27 := eq_true p27
   replace q27 := eq_true q27
   refine Sx 24 (fun w' => w'.cell? ⟨gb24, 0, none⟩ = some (.int .i64 a0_0) ∧ w'.cell? ⟨gb24, 1, none⟩ = some (.int .i64 a0_1) ∧ w'.cell? ⟨gb24, 2, none⟩ = some (.slice A0_2 l0_2.length c0_2) ∧ w'.cell? (ad27.add ((x5_1).toNat * 3)) = some (.int .i64 ((rd_T39 l1 x5_1).f0)) ∧ w'.cell? ⟨(ad27.add ((x5_1).toNat * 3)).block, (ad27.add ((x5_1).toNat * 3)).off + 1, none⟩ = some (.int .i64 ((rd_T39 l1 x5_1).f1)) ∧ w'.cell? ⟨(ad27.add ((x5_1).toNat * 3)).block, (ad27.add ((x5_1).toNat * 3)).off + 2, none⟩ = some (.int .i64 ((rd_T39 l1 x5_1).f2))) ⟨Xk B24 0, Xk B24 1, Xk B24 2, Xn hw245_0, Xn hw245_1, Xn hw245_2⟩ (fun hHeld => ?_); refine with_tabW spec_l07Holds.tab6 spec_l07Holds.bits6 (fun HT_ HW_ => ?_)
   generalize wr.drew = w20 at B24 HB hx27_0 hx27_1 hx27_2 hHeld ⊢
   refine Pu 1 16 24 2 ?_
   refine Pu 2 17 24 6 ?_
   refine Pu 3 18 24 14 ?_
   refine Ta 0 15 24 15 ?_
   refine Ta 4 19 24 31 ?_
   refine On 5 20 24 63 (fun K hK => ?_)
   refine Gs Tryz.func171 #[.agg #[.int .i64 a0_0, .int .i64 a0_1, .slice A0_2 l0_2.length c0_2], .agg #[.int .i64 ((rd_T39 l1 x5_1).f0), .int .i64 ((rd_T39 l1 x5_1).f1), .int .i64 ((rd_T39 l1 x5_1).f2)]] ?_
   with_reducible refine (spec_l07Hold.calls k1 a0_0 a0_1 _ _ l0_2 ((rd_T39 l1 x5_1).f0) ((rd_T39 l1 x5_1).f1) ((rd_T39 l1 x5_1).f2) true _ ?s1 ?s2 A8.out).mono ?_
   (case s1 => exact Xc HR0_2)
   (case s2 => exact HC0_2.out)
   rintro e w21 ⟨rfl, hb⟩
   refine ⟨_, rfl, ?_⟩
   replace B24 := Xbb B24 hb
   replace HB := Xhb hb
   try clear hb
   try clear hb2
   try clear hk
   try clear hi
   refine hK.out _ _ ⟨Xk B24 0, Xk B24 1, Xk B24 2, Xn hw245_0, Xn hw245_1, Xn hw245_2⟩ (fun hHeld => ?_)
   clear hK K
   refine Xno ?_
   refine Pu 6 21 24 127 ?_
   refine Pu 7 22 24 255 ?_
   refine Pu 8 23 24 511 ?_
   refine Pu 9 24 24 1023 ?_
   refine Pu 10 25 24 2047 ?_
   refine Pn 11 26 24 4095 ?_
   refine Pn 12 27 24 8191 ?_
   refine Pn 13 28 24 16383 ?_
   refine Pn 14 29 24 32767 ?_
   refine Pn 15 30 24 65535 ?_
   refine Pn 16 31 24 131071 ?_
   refine Pn 17 32 24 262143 ?_
   refine Pn 18 33 24 524287 ?_
   refine Pn 19 34 24 1048575 ?_
   refine Pn 20 35 24 2097151 ?_
   refine Pn 21 36 24 4194303 ?_
   refine Pu 22 37 24 8388607 ?_
   refine Pu 23 38 24 16777215 ?_
   refine Dn ?_
   try go_wp2_with (fail)
   go_roundg k1
   case measure => have := HK1.out; omega
   case rel => exact ⟨(wrap64 (x5_1 + 1)), Xr, H', Xk1, B24, ⟨Xi⟩⟩
  replace c9 := Xbf c9
  subst c9
  try rw [if_neg Xft] at H
  obtain rfl := Xsi H
  try go_wp2_with (fail)
  replace B24 := Xbd B24
  replace HB := Xhd HB
  have p27 : 0 ≤ (x5_1 : Int) := Xo
  have q27 : x5_1 < (l1.length : Int) := Xo
  obtain ⟨ad27, e27, hx27_0, hx27_1, hx27_2⟩ := at_T39 HR1.out x5_1 p27 q27
  have hw245_2 := hx27_2
  have hw245_1 := hx27_1
  have hw245_0 := hx27_0
  cases e27
  replace hx27_0 := Xm HB hx27_0
  replace hx27_1 := Xm HB hx27_1
  replace hx27_2 := Xm HB hx27_2
  replace p27 := eq_true p27
  replace q27 := eq_true q27
  refine Sx 24 (fun w' => w'.cell? ⟨gb24, 0, none⟩ = some (.int .i64 a0_0) ∧ w'.cell? ⟨gb24, 1, none⟩ = some (.int .i64 a0_1) ∧ w'.cell? ⟨gb24, 2, none⟩ = some (.slice A0_2 l0_2.length c0_2) ∧ w'.cell? (ad27.add ((x5_1).toNat * 3)) = some (.int .i64 ((rd_T39 l1 x5_1).f0)) ∧ w'.cell? ⟨(ad27.add ((x5_1).toNat * 3)).block, (ad27.add ((x5_1).toNat * 3)).off + 1, none⟩ = some (.int .i64 ((rd_T39 l1 x5_1).f1)) ∧ w'.cell? ⟨(ad27.add ((x5_1).toNat * 3)).block, (ad27.add ((x5_1).toNat * 3)).off + 2, none⟩ = some (.int .i64 ((rd_T39 l1 x5_1).f2))) ⟨Xk B24 0, Xk B24 1, Xk B24 2, Xn hw245_0, Xn hw245_1, Xn hw245_2⟩ (fun hHeld => ?_); refine with_tabW spec_l07Holds.tab6 spec_l07Holds.bits6 (fun HT_ HW_ => ?_)
  generalize wr.drew = w22 at B24 HB hx27_0 hx27_1 hx27_2 hHeld ⊢
  refine Pu 1 16 24 2 ?_
  refine Pu 2 17 24 6 ?_
  refine Pu 3 18 24 14 ?_
  refine Ta 0 15 24 15 ?_
  refine Ta 4 19 24 31 ?_
  refine On 5 20 24 63 (fun K hK => ?_)
  refine Gs Tryz.func171 #[.agg #[.int .i64 a0_0, .int .i64 a0_1, .slice A0_2 l0_2.length c0_2], .agg #[.int .i64 ((rd_T39 l1 x5_1).f0), .int .i64 ((rd_T39 l1 x5_1).f1), .int .i64 ((rd_T39 l1 x5_1).f2)]] ?_
  with_reducible refine (spec_l07Hold.calls k1 a0_0 a0_1 _ _ l0_2 ((rd_T39 l1 x5_1).f0) ((rd_T39 l1 x5_1).f1) ((rd_T39 l1 x5_1).f2) false _ ?s1 ?s2 A8.out).mono ?_
  (case s1 => exact Xc HR0_2)
  (case s2 => exact HC0_2.out)
  rintro e w23 ⟨rfl, hb⟩
  refine ⟨_, rfl, ?_⟩
  replace B24 := Xbb B24 hb
  replace HB := Xhb hb
  try clear hb
  try clear hb2
  try clear hk
  try clear hi
  refine hK.out _ _ ⟨Xk B24 0, Xk B24 1, Xk B24 2, Xn hw245_0, Xn hw245_1, Xn hw245_2⟩ (fun hHeld => ?_)
  clear hK K
  refine Xno ?_
  refine Pu 6 21 24 127 ?_
  refine Pu 7 22 24 255 ?_
  refine Pn 8 23 24 511 ?_
  refine Pn 9 24 24 1023 ?_
  refine Pn 10 25 24 2047 ?_
  refine Pn 11 26 24 4095 ?_
  refine Pn 12 27 24 8191 ?_
  refine Pn 13 28 24 16383 ?_
  refine Pn 14 29 24 32767 ?_
  refine Pn 15 30 24 65535 ?_
  refine Pn 16 31 24 131071 ?_
  refine Pn 17 32 24 262143 ?_
  refine Pn 18 33 24 524287 ?_
  refine Pn 19 34 24 1048575 ?_
  refine Pn 20 35 24 2097151 ?_
  refine Pn 21 36 24 4194303 ?_
  refine Pn 22 37 24 8388607 ?_
  refine Pu 23 38 24 16777215 ?_
  refine Dn ?_
  try go_wp2_with (fail)
  go_ret
  exact ⟨Xe, Xi⟩
 obtain rfl := Xsi H
 go_wp2
 go_ret
 exact ⟨Xe, Xi⟩
def spec_HoldsOK.f (k : Nat) (a0_0 : Int) (a0_1 : Int) (l0_2 : List (S113)) (l1 : List (S39)) : Option (Bool) := if (l1.length : Int) > 4096 then (some false) else ((spec_l02OK.f k a0_0 a0_1 l0_2).bind fun t10 => (if t10 = true then ((spec_l07Holds.f k a0_0 a0_1 l0_2 l1).bind fun t11 => (some t11)) else (some false)))
theorem spec_HoldsOK.calls (k : Nat) (a0_0 : Int) (a0_1 : Int) (A0_2 : Option Addr) (c0_2 : Nat) (l0_2 : List (S113)) (A1 : Option Addr) (c1 : Nat) (l1 : List (S39)) (r : Bool) (w : World) (hr0_2 : Kd.C k113 w A0_2 l0_2.length l0_2) (hc0_2 : l0_2.length ≤ c0_2) (hr1 : Kd.C k39 w A1 l1.length l1) (hc1 : l1.length ≤ c1) (h : spec_HoldsOK.f k a0_0 a0_1 l0_2 l1 = some r) :
  Calls Tryz.prog 87 #[.agg #[.int .i64 a0_0, .int .i64 a0_1, .slice A0_2 l0_2.length c0_2], .slice A1 l1.length c1] w fun e w' => e = .returned (.bool r) ∧ Below w.heap.size w w' := by
 have hu35 := Tryz.underlying35
 have HR0_2 := Am hr0_2
 have HC0_2 := Am hc0_2
 clear hr0_2 hc0_2
 have HR1 := Am hr1
 have HC1 := Am hc1
 clear hr1 hc1
 have HB := Am (Below.refl w.heap.size w)
 have H : (if (l1.length : Int) > 4096 then (some false) else ((spec_l02OK.f k a0_0 a0_1 l0_2).bind fun t15 => (if t15 = true then ((spec_l07Holds.f k a0_0 a0_1 l0_2 l1).bind fun t16 => (some t16)) else (some false)))) = some r := h
 clear h
 have HC3 := Am H
 clear H
 go_enter Tryz.func87, Tryz.ntmps87
 go_upto_if 7 with ((with_reducible refine gate_dst (N := 2) rfl ?_); refine Xbx 2 #[.int .i64 a0_0, .int .i64 a0_1, .slice A0_2 l0_2.length c0_2] 35 ?_; intro gb17 hg w4 B17 GE17 hb; replace HB := Xhb hb; clear hb hg)
 have H := HC3.out
 clear HC3
 obtain ⟨c5, H⟩ | ⟨c5, H⟩ := Xiu H
 ·have c5b0 : decide (4096 < (l1.length : Int)) = true := decide_eq_true c5
  have c5b1 : decide (4096 < l1.length) = true := decide_eq_true (by omega)
  clear c5
  (first | rw [c5b0] | (simp only [i64_w, i32_w]; rw [c5b0]) | skip)
  obtain rfl := Xsi H
  go_wp2
  go_ret
  exact ⟨Xe, Xi⟩
 have c5b0 : decide (4096 < (l1.length : Int)) = false := decide_eq_false c5
 have c5b1 : decide (4096 < l1.length) = false := decide_eq_false (by omega)
 clear c5
 (first | rw [c5b0] | (simp only [i64_w, i32_w]; rw [c5b0]) | skip)
 obtain ⟨t15, A6, H⟩ := Xbi H
 try dsimp only at H
 by_cases c7 : t15 = true
 ·subst c7
  try rw [if_pos rfl] at H
  obtain ⟨t16, A8, H⟩ := Xbi H
  try dsimp only at H
  obtain rfl := Xsi H
  obtain ⟨Z9_0, Z9_1, Z9_2⟩ := Xc3 B17
  go_wp2_with (first | ((with_reducible refine gate_callee (f := 143) rfl ?_); refine Xgo 9 Tryz.func143 #[.agg #[.int .i64 a0_0, .int .i64 a0_1, .slice A0_2 l0_2.length c0_2]] ?_; (with_reducible refine (spec_l02OK.calls k a0_0 a0_1 _ _ l0_2 true _ ?s1 ?s2 A6.out).mono ?_); (case s1 => exact Xc HR0_2); (case s2 => exact HC0_2.out); rintro e w10 ⟨rfl, hb⟩; refine ⟨_, rfl, ?_⟩; replace B17 := Xbb B17 hb; replace HB := Xhb hb; clear hb; obtain ⟨Z11_0, Z11_1, Z11_2⟩ := Xc3 B17) | (go_at_call 144; (with_reducible refine (spec_l07Holds.calls k a0_0 a0_1 _ _ l0_2 _ _ l1 t16 _ ?s1 ?s2 ?s3 ?s4 A8.out).mono ?_); (case s1 => exact Xc HR0_2); (case s2 => exact HC0_2.out); (case s3 => exact Xc HR1); (case s4 => exact HC1.out); rintro e w12 ⟨rfl, hb⟩; replace B17 := Xbb B17 hb; replace HB := Xhb hb; clear hb))
  go_ret
  exact ⟨Xe, Xi⟩
 replace c7 := Xbf c7
 subst c7
 try rw [if_neg Xft] at H
 obtain rfl := Xsi H
 obtain ⟨Z13_0, Z13_1, Z13_2⟩ := Xc3 B17
 go_wp2_with (first | ((with_reducible refine gate_callee (f := 143) rfl ?_); refine Xgo 9 Tryz.func143 #[.agg #[.int .i64 a0_0, .int .i64 a0_1, .slice A0_2 l0_2.length c0_2]] ?_; (with_reducible refine (spec_l02OK.calls k a0_0 a0_1 _ _ l0_2 false _ ?s1 ?s2 A6.out).mono ?_); (case s1 => exact Xc HR0_2); (case s2 => exact HC0_2.out); rintro e w14 ⟨rfl, hb⟩; refine ⟨_, rfl, ?_⟩; replace B17 := Xbb B17 hb; replace HB := Xhb hb; clear hb))
 go_ret
 exact ⟨Xe, Xi⟩
mutual
def spec_l08Waits.l0 : Nat → List (S39) → Int → Int → Int → List (S113) → Option (Bool)
 | 0, _, _, _, _, _ => none
 | k + 1, x1, x5, x254000, x254001, x254002 => if x5 < (x1.length : Int) then (if 0 ≤ x5 then ((spec_l07Hold.f k x254000 x254001 x254002 ((rd_T39 x1 x5).f0) ((rd_T39 x1 x5).f1) ((rd_T39 x1 x5).f2)).bind fun t10 => (if t10 = true then (spec_l08Waits.l1 k x1 x5 0 x254000 x254001 x254002) else (some false))) else (none)) else (some true)
def spec_l08Waits.l1 : Nat → List (S39) → Int → Int → Int → Int → List (S113) → Option (Bool)
 | 0, _, _, _, _, _, _ => none
 | k + 1, x1, x5, x6, x254000, x254001, x254002 => if x6 < x5 then (if 0 ≤ x6 then (if x6 < (x1.length : Int) then (if 0 ≤ x5 then (if x5 < (x1.length : Int) then (if ((rd_T39 x1 x6).f0) = ((rd_T39 x1 x5).f0) then (some false) else (spec_l08Waits.l1 k x1 x5 (wrap64 (x6 + 1)) x254000 x254001 x254002)) else (none)) else (none)) else (none)) else (none)) else (spec_l08Waits.l0 k x1 (wrap64 (x5 + 1)) x254000 x254001 x254002)
end
def spec_l08Waits.f (k : Nat) (a0_0 : Int) (a0_1 : Int) (l0_2 : List (S113)) (l1 : List (S39)) : Option (Bool) := if (l1.length : Int) > 6 then (some false) else (spec_l08Waits.l0 k l1 0 a0_0 a0_1 l0_2)
def spec_l08Waits.T11 : Bool × List (List Nat × List Nat) := (true, [([], []), ([], []), ([0, 1], [0, 1]), ([2], [2]), ([3], [3]), ([], []), ([], []), ([5, 6], [5, 6]), ([7], [7]), ([8], [8]), ([4, 9], [4, 9])])
def spec_l08Waits.B11 : List Nat := [0, 0, 3, 7, 15, 0, 0, 96, 224, 480, 1023]
theorem spec_l08Waits.tab11 : rtab .any (opsOf Tryz.f149 11) = spec_l08Waits.T11 := by kernel_rfl
theorem spec_l08Waits.bits11 : waitsOk spec_l08Waits.T11.2 spec_l08Waits.B11 = true := by kernel_rfl
theorem spec_l08Waits.calls (k : Nat) (a0_0 : Int) (a0_1 : Int) (A0_2 : Option Addr) (c0_2 : Nat) (l0_2 : List (S113)) (A1 : Option Addr) (c1 : Nat) (l1 : List (S39)) (r : Bool) (w : World) (hr0_2 : Kd.C k113 w A0_2 l0_2.length l0_2) (hc0_2 : l0_2.length ≤ c0_2) (hr1 : Kd.C k39 w A1 l1.length l1) (hc1 : l1.length ≤ c1) (h : spec_l08Waits.f k a0_0 a0_1 l0_2 l1 = some r) :
  Calls Tryz.prog 149 #[.agg #[.int .i64 a0_0, .int .i64 a0_1, .slice A0_2 l0_2.length c0_2], .slice A1 l1.length c1] w fun e w' => e = .returned (.bool r) ∧ Below w.heap.size w w' := by
 have hu35 := Tryz.underlying35
 have hu39 := Tryz.underlying39
 have HR0_2 := Am hr0_2
 have HC0_2 := Am hc0_2
 clear hr0_2 hc0_2
 have HR1 := Am hr1
 have HC1 := Am hc1
 clear hr1 hc1
 have HB := Am (Below.refl w.heap.size w)
 have H : (if (l1.length : Int) > 6 then (some false) else (spec_l08Waits.l0 k l1 0 a0_0 a0_1 l0_2)) = some r := h
 clear h
 have HC3 := Am H
 clear H
 go_enter Tryz.func149, Tryz.ntmps149
 go_upto_if 9 with ((with_reducible refine gate_dst (N := 2) rfl ?_); refine Xbx 2 #[.int .i64 a0_0, .int .i64 a0_1, .slice A0_2 l0_2.length c0_2] 35 ?_; intro gb21 hg w4 B21 GE21 hb; replace HB := Xhb hb; clear hb hg)
 have H := HC3.out
 clear HC3
 obtain ⟨c5, H⟩ | ⟨c5, H⟩ := Xiu H
 ·have c5b0 : decide (6 < (l1.length : Int)) = true := decide_eq_true c5
  have c5b1 : decide (6 < l1.length) = true := decide_eq_true (by omega)
  clear c5
  (first | rw [c5b0] | (simp only [i64_w, i32_w]; rw [c5b0]) | skip)
  obtain rfl := Xsi H
  go_wp2
  go_ret
  exact ⟨Xe, Xi⟩
 have c5b0 : decide (6 < (l1.length : Int)) = false := decide_eq_false c5
 have c5b1 : decide (6 < l1.length) = false := decide_eq_false (by omega)
 clear c5
 (first | rw [c5b0] | (simp only [i64_w, i32_w]; rw [c5b0]) | skip)
 have H' := Am H
 clear H
 go_wp2
 go_loopg [5] k (fun kq v5 w' => ∃ (x5_1 : Int), v5 = .int .i64 x5_1 ∧ Aside0 (spec_l08Waits.l0 kq l1 x5_1 a0_0 a0_1 l0_2 = some r) ∧ Aside0 (kq ≤ k) ∧ Aside0 (w'.heap[gb21]? = some (.cells #[.int .i64 a0_0, .int .i64 a0_1, (.slice A0_2 l0_2.length c0_2)] 35 (0, 0))) ∧ Aside0 (Below w.heap.size w w'))
 case atStart => exact ⟨(0), Xr, H', Xkr, B21, ⟨Xi⟩⟩
 clear H'
 (try clear c1); (try clear c5); (try clear c5b0); (try clear c5b1)
 obtain ⟨x5_1, rfl, HA, HK1, B21, HB⟩ := hrel
 cases gk with | zero => cases HA.out | succ k1 => ?_
 have H := HA.out
 clear HA
 simp only [spec_l08Waits.l0] at H
 obtain ⟨c6b0, H⟩ | ⟨c6b0, H⟩ := Xit H
 ·obtain ⟨c7b0, H⟩ := Xid H
  obtain ⟨t22, A8, H⟩ := Xbi H
  try dsimp only at H
  have HC9 := Am H
  clear H
  try go_wp2_with (fail)
  replace B21 := Xbd B21
  replace HB := Xhd HB
  have p23 : 0 ≤ (x5_1 : Int) := Xo
  have q23 : x5_1 < (l1.length : Int) := Xo
  obtain ⟨ad23, e23, hx23_0, hx23_1, hx23_2⟩ := at_T39 HR1.out x5_1 p23 q23
  have hw254_2 := hx23_2
  have hw254_1 := hx23_1
  have hw254_0 := hx23_0
  cases e23
  replace hx23_0 := Xm HB hx23_0
  replace hx23_1 := Xm HB hx23_1
  replace hx23_2 := Xm HB hx23_2
  replace p23 := eq_true p23
  replace q23 := eq_true q23
  refine Sx 7 (fun w' => w'.cell? ⟨gb21, 0, none⟩ = some (.int .i64 a0_0) ∧ w'.cell? ⟨gb21, 1, none⟩ = some (.int .i64 a0_1) ∧ w'.cell? ⟨gb21, 2, none⟩ = some (.slice A0_2 l0_2.length c0_2) ∧ w'.cell? (ad23.add ((x5_1).toNat * 3)) = some (.int .i64 ((rd_T39 l1 x5_1).f0)) ∧ w'.cell? ⟨(ad23.add ((x5_1).toNat * 3)).block, (ad23.add ((x5_1).toNat * 3)).off + 1, none⟩ = some (.int .i64 ((rd_T39 l1 x5_1).f1)) ∧ w'.cell? ⟨(ad23.add ((x5_1).toNat * 3)).block, (ad23.add ((x5_1).toNat * 3)).off + 2, none⟩ = some (.int .i64 ((rd_T39 l1 x5_1).f2))) ⟨Xk B21 0, Xk B21 1, Xk B21 2, Xn hw254_0, Xn hw254_1, Xn hw254_2⟩ (fun hHeld => ?_)
  generalize wr.drew = w10 at B21 HB hx23_0 hx23_1 hx23_2 hHeld ⊢
  refine pure_ (i := 1) (N := some 17) (v := ?_) (a' := ?_) (XW.bs 7 2) rfl rfl (by kernel_rfl) (fun _ _ _ h => h) (Or.inl ⟨by rfl, ?_⟩) ?_ ?_
  rotate_left
  ·intro w'
   go_simp
   with_reducible rfl
  rotate_left
  ·simp only [XW.q0, XW.q1, XW.q2, i64_w, i32_w]
   rfl
  refine pure_ (i := 2) (N := some 18) (v := ?_) (a' := ?_) (XW.bs 7 6) rfl rfl (by kernel_rfl) (fun _ _ _ h => h) (Or.inl ⟨by rfl, ?_⟩) ?_ ?_
  rotate_left
  ·intro w'
   go_simp
   with_reducible rfl
  rotate_left
  ·simp only [XW.q0, XW.q1, XW.q2, i64_w, i32_w]
   rfl
  refine pure_ (i := 3) (N := some 19) (v := ?_) (a' := ?_) (XW.bs 7 14) rfl rfl (by kernel_rfl) (fun _ _ _ h => h) (Or.inl ⟨by rfl, ?_⟩) ?_ ?_
  rotate_left
  ·intro w'
   go_simp
   with_reducible rfl
  rotate_left
  ·simp only [XW.q0, XW.q1, XW.q2, i64_w, i32_w]
   rfl
  refine take_ (i := 0) (N := some 16) (v := ?_) (a' := ?_) (XW.bs 7 15) rfl rfl (by kernel_rfl) (fun _ _ _ h => h) (Or.inl ⟨by rfl, ?_⟩) hHeld ?_ ?_
  rotate_left
  ·rintro w' ⟨s0, s1, s2, s3, s4, s5⟩
   go_simp
   with_reducible rfl
  rotate_left
  ·simp only [XW.q0, XW.q1, XW.q2, i64_w, i32_w]
   rfl
  refine take_ (i := 4) (N := some 20) (v := ?_) (a' := ?_) (XW.bs 7 31) rfl rfl (by kernel_rfl) (fun _ _ _ h => h) (Or.inl ⟨by rfl, ?_⟩) hHeld ?_ ?_
  rotate_left
  ·rintro w' ⟨s0, s1, s2, s3, s4, s5⟩
   go_simp
   with_reducible rfl
  rotate_left
  ·simp only [XW.q0, XW.q1, XW.q2, i64_w, i32_w]
   rfl
  refine one_ (i := 5) (N := some 21) (XW.bs 7 63) rfl rfl (by kernel_rfl) (by decide) (fun K hK => ?_)
  refine Gs Tryz.func171 #[.agg #[.int .i64 a0_0, .int .i64 a0_1, .slice A0_2 l0_2.length c0_2], .agg #[.int .i64 ((rd_T39 l1 x5_1).f0), .int .i64 ((rd_T39 l1 x5_1).f1), .int .i64 ((rd_T39 l1 x5_1).f2)]] ?_
  with_reducible refine (spec_l07Hold.calls k1 a0_0 a0_1 _ _ l0_2 ((rd_T39 l1 x5_1).f0) ((rd_T39 l1 x5_1).f1) ((rd_T39 l1 x5_1).f2) t22 _ ?s1 ?s2 A8.out).mono ?_
  (case s1 => exact Xc HR0_2)
  (case s2 => exact HC0_2.out)
  rintro e w11 ⟨rfl, hb⟩
  refine ⟨_, rfl, ?_⟩
  replace B21 := Xbb B21 hb
  replace HB := Xhb hb
  try clear hb
  try clear hb2
  try clear hk
  try clear hi
  refine hK.out _ _ ⟨Xk B21 0, Xk B21 1, Xk B21 2, Xn hw254_0, Xn hw254_1, Xn hw254_2⟩ (fun hHeld => ?_)
  clear hK K
  refine Xno ?_
  refine pure_ (i := 6) (N := some 22) (v := ?_) (a' := ?_) (XW.bs 7 127) rfl rfl (by kernel_rfl) (fun _ _ _ h => h) (Or.inl ⟨by rfl, ?_⟩) ?_ ?_
  rotate_left
  ·intro w'
   go_simp
   with_reducible rfl
  rotate_left
  ·simp only [XW.q0, XW.q1, XW.q2, i64_w, i32_w]
   rfl
  refine done_ (by kernel_rfl) ?_
  go_upto_if 22 with (fail)
  have H := HC9.out
  clear HC9
  by_cases c12 : t22 = true
  ·subst c12
   try rw [if_pos rfl] at H
   have H' := Am H
   clear H
   go_wp2
   go_loopg [6] k1 (fun kq v6 w' => ∃ (x6_2 : Int), v6 = .int .i64 x6_2 ∧ Aside0 (spec_l08Waits.l1 kq l1 x5_1 x6_2 a0_0 a0_1 l0_2 = some r) ∧ Aside0 (kq ≤ k1) ∧ Aside0 (w'.heap[gb21]? = some (.cells #[.int .i64 a0_0, .int .i64 a0_1, (.slice A0_2 l0_2.length c0_2)] 35 (0, 0))) ∧ Aside0 (Below w.heap.size w w'))
   case atStart => exact ⟨(0), Xr, H', Xkr, B21, ⟨Xi⟩⟩
   clear H'
   (try clear c1); (try clear c5); (try clear c5b0); (try clear c5b1); (try clear c6); (try clear c6b0); (try clear c7); (try clear c7b0); (try clear c12); (try clear hx23_0); (try clear hx23_1); (try clear hx23_2); (try clear p23); (try clear q23)
   obtain ⟨x6_2, rfl, HA, HK2, B21, HB⟩ := hrel
   cases gk with | zero => cases HA.out | succ k2 => ?_
   have H := HA.out
   clear HA
   simp only [spec_l08Waits.l1] at H
   obtain ⟨c13b0, H⟩ | ⟨c13b0, H⟩ := Xit H
   ·(first | rw [c13b0] | (simp only [i64_w, i32_w]; rw [c13b0]) | skip)
    obtain ⟨c14b0, H⟩ := Xid H
    obtain ⟨c15b0, H⟩ := Xid H
    obtain ⟨c16b0, H⟩ := Xid H
    obtain ⟨c17b0, H⟩ := Xid H
    obtain ⟨c18, H⟩ | ⟨c18, H⟩ := Xiu H
    ·have c18b0 : (((rd_T39 l1 x6_2).f0) == ((rd_T39 l1 x5_1).f0)) = true := beq_iff_eq.mpr c18
     have c18b1 : (((rd_T39 l1 x6_2).f0) != ((rd_T39 l1 x5_1).f0)) = false := bne_eq_false_iff_eq.mpr c18
     clear c18
     obtain rfl := Xsi H
     try go_wp2_with (fail)
     replace B21 := Xbd B21
     replace HB := Xhd HB
     have p24 : 0 ≤ (x6_2 : Int) := Xo
     have q24 : x6_2 < (l1.length : Int) := Xo
     obtain ⟨ad24, e24, hx24_0, hx24_1, hx24_2⟩ := at_T39 HR1.out x6_2 p24 q24
     have hw256_2 := hx24_2
     have hw256_1 := hx24_1
     have hw256_0 := hx24_0
     obtain rfl : ad23 = ad24 := (by injection e24)
     replace hx24_0 := Xm HB hx24_0
     replace hx24_1 := Xm HB hx24_1
     replace hx24_2 := Xm HB hx24_2
     replace p24 := eq_true p24
     replace q24 := eq_true q24
     have p25 : 0 ≤ (x5_1 : Int) := Xo
     have q25 : x5_1 < (l1.length : Int) := Xo
     obtain ⟨ad25, e25, hx25_0, hx25_1, hx25_2⟩ := at_T39 HR1.out x5_1 p25 q25
     have hw257_2 := hx25_2
     have hw257_1 := hx25_1
     have hw257_0 := hx25_0
     obtain rfl : ad23 = ad25 := (by injection e25)
     replace hx25_0 := Xm HB hx25_0
     replace hx25_1 := Xm HB hx25_1
     replace hx25_2 := Xm HB hx25_2
     replace p25 := eq_true p25
     replace q25 := eq_true q25
     refine Sx 11 (fun w' => w'.cell? (ad23.add ((x6_2).toNat * 3)) = some (.int .i64 ((rd_T39 l1 x6_2).f0)) ∧ w'.cell? ⟨(ad23.add ((x6_2).toNat * 3)).block, (ad23.add ((x6_2).toNat * 3)).off + 1, none⟩ = some (.int .i64 ((rd_T39 l1 x6_2).f1)) ∧ w'.cell? ⟨(ad23.add ((x6_2).toNat * 3)).block, (ad23.add ((x6_2).toNat * 3)).off + 2, none⟩ = some (.int .i64 ((rd_T39 l1 x6_2).f2)) ∧ w'.cell? (ad23.add ((x5_1).toNat * 3)) = some (.int .i64 ((rd_T39 l1 x5_1).f0)) ∧ w'.cell? ⟨(ad23.add ((x5_1).toNat * 3)).block, (ad23.add ((x5_1).toNat * 3)).off + 1, none⟩ = some (.int .i64 ((rd_T39 l1 x5_1).f1)) ∧ w'.cell? ⟨(ad23.add ((x5_1).toNat * 3)).block, (ad23.add ((x5_1).toNat * 3)).off + 2, none⟩ = some (.int .i64 ((rd_T39 l1 x5_1).f2))) ⟨Xn hw256_0, Xn hw256_1, Xn hw256_2, Xn hw257_0, Xn hw257_1, Xn hw257_2⟩ (fun hHeld => ?_); refine with_tabW spec_l08Waits.tab11 spec_l08Waits.bits11 (fun HT_ HW_ => ?_)
     generalize wr.drew = w19 at B21 HB hx24_0 hx24_1 hx24_2 hx25_0 hx25_1 hx25_2 hHeld ⊢
     refine Pu 0 28 11 1 ?_
     refine Pu 1 29 11 3 ?_
     refine Pu 2 30 11 7 ?_
     refine Pu 3 31 11 15 ?_
     refine Pu 5 33 11 47 ?_
     refine Pu 6 34 11 111 ?_
     refine Pu 7 35 11 239 ?_
     refine Pu 8 36 11 495 ?_
     refine Ta 4 32 11 511 ?_
     refine Ta 9 37 11 1023 ?_
     refine Pu 10 38 11 2047 ?_
     refine Dn ?_
     try go_wp2_with (fail)
     go_ret
     exact ⟨Xe, Xi⟩
    have c18b0 : (((rd_T39 l1 x6_2).f0) == ((rd_T39 l1 x5_1).f0)) = false := beq_eq_false_iff_ne.mpr c18
    have c18b1 : (((rd_T39 l1 x6_2).f0) != ((rd_T39 l1 x5_1).f0)) = true := bne_iff_ne.mpr c18
    have H' := Am H
    clear H
    try go_wp2_with (fail)
    replace B21 := Xbd B21
    replace HB := Xhd HB
    have p24 : 0 ≤ (x6_2 : Int) := Xo
    have q24 : x6_2 < (l1.length : Int) := Xo
    obtain ⟨ad24, e24, hx24_0, hx24_1, hx24_2⟩ := at_T39 HR1.out x6_2 p24 q24
    have hw256_2 := hx24_2
    have hw256_1 := hx24_1
    have hw256_0 := hx24_0
    obtain rfl : ad23 = ad24 := (by injection e24)
    replace hx24_0 := Xm HB hx24_0
    replace hx24_1 := Xm HB hx24_1
    replace hx24_2 := Xm HB hx24_2
    replace p24 := eq_true p24
    replace q24 := eq_true q24
    have p25 : 0 ≤ (x5_1 : Int) := Xo
    have q25 : x5_1 < (l1.length : Int) := Xo
    obtain ⟨ad25, e25, hx25_0, hx25_1, hx25_2⟩ := at_T39 HR1.out x5_1 p25 q25
    have hw257_2 := hx25_2
    have hw257_1 := hx25_1
    have hw257_0 := hx25_0
    obtain rfl : ad23 = ad25 := (by injection e25)
    replace hx25_0 := Xm HB hx25_0
    replace hx25_1 := Xm HB hx25_1
    replace hx25_2 := Xm HB hx25_2
    replace p25 := eq_true p25
    replace q25 := eq_true q25
    refine Sx 11 (fun w' => w'.cell? (ad23.add ((x6_2).toNat * 3)) = some (.int .i64 ((rd_T39 l1 x6_2).f0)) ∧ w'.cell? ⟨(ad23.add ((x6_2).toNat * 3)).block, (ad23.add ((x6_2).toNat * 3)).off + 1, none⟩ = some (.int .i64 ((rd_T39 l1 x6_2).f1)) ∧ w'.cell? ⟨(ad23.add ((x6_2).toNat * 3)).block, (ad23.add ((x6_2).toNat * 3)).off + 2, none⟩ = some (.int .i64 ((rd_T39 l1 x6_2).f2)) ∧ w'.cell? (ad23.add ((x5_1).toNat * 3)) = some (.int .i64 ((rd_T39 l1 x5_1).f0)) ∧ w'.cell? ⟨(ad23.add ((x5_1).toNat * 3)).block, (ad23.add ((x5_1).toNat * 3)).off + 1, none⟩ = some (.int .i64 ((rd_T39 l1 x5_1).f1)) ∧ w'.cell? ⟨(ad23.add ((x5_1).toNat * 3)).block, (ad23.add ((x5_1).toNat * 3)).off + 2, none⟩ = some (.int .i64 ((rd_T39 l1 x5_1).f2))) ⟨Xn hw256_0, Xn hw256_1, Xn hw256_2, Xn hw257_0, Xn hw257_1, Xn hw257_2⟩ (fun hHeld => ?_); refine with_tabW spec_l08Waits.tab11 spec_l08Waits.bits11 (fun HT_ HW_ => ?_)
    generalize wr.drew = w20 at B21 HB hx24_0 hx24_1 hx24_2 hx25_0 hx25_1 hx25_2 hHeld ⊢
    refine Pu 0 28 11 1 ?_
    refine Pu 1 29 11 3 ?_
    refine Pu 2 30 11 7 ?_
    refine Pu 3 31 11 15 ?_
    refine Pu 5 33 11 47 ?_
    refine Pu 6 34 11 111 ?_
    refine Pu 7 35 11 239 ?_
    refine Pu 8 36 11 495 ?_
    refine Ta 4 32 11 511 ?_
    refine Ta 9 37 11 1023 ?_
    refine Pu 10 38 11 2047 ?_
    refine Dn ?_
    try go_wp2_with (fail)
    go_roundg k2
    case measure => have := HK1.out; have := HK2.out; omega
    case rel => exact ⟨(wrap64 (x6_2 + 1)), Xr, H', ⟨by have := HK1.out; have := HK2.out; omega⟩, B21, ⟨Xi⟩⟩
   (first | rw [c13b0] | (simp only [i64_w, i32_w]; rw [c13b0]) | skip)
   have H' := Am H
   clear H
   go_wp2
   go_roundg k2
   case measure => have := HK1.out; have := HK2.out; omega
   case rel => exact ⟨(wrap64 (x5_1 + 1)), Xr, H', ⟨by have := HK1.out; have := HK2.out; omega⟩, B21, ⟨Xi⟩⟩
  replace c12 := Xbf c12
  subst c12
  try rw [if_neg Xft] at H
  obtain rfl := Xsi H
  go_wp2
  go_ret
  exact ⟨Xe, Xi⟩
 obtain rfl := Xsi H
 go_wp2
 go_ret
 exact ⟨Xe, Xi⟩
def spec_TableOK.f (k : Nat) (a0_0 : Int) (a0_1 : Int) (l0_2 : List (S113)) (l1_0 : List (S39)) (l1_1 : List (S39)) : Option (Bool) := (spec_HoldsOK.f k a0_0 a0_1 l0_2 l1_0).bind fun t10 => (if t10 = true then ((spec_l08Waits.f k a0_0 a0_1 l0_2 l1_1).bind fun t11 => (some t11)) else (some false))
theorem spec_TableOK.calls (k : Nat) (a0_0 : Int) (a0_1 : Int) (A0_2 : Option Addr) (c0_2 : Nat) (l0_2 : List (S113)) (A1_0 : Option Addr) (c1_0 : Nat) (l1_0 : List (S39)) (A1_1 : Option Addr) (c1_1 : Nat) (l1_1 : List (S39)) (r : Bool) (w : World) (hr0_2 : Kd.C k113 w A0_2 l0_2.length l0_2) (hc0_2 : l0_2.length ≤ c0_2) (hr1_0 : Kd.C k39 w A1_0 l1_0.length l1_0) (hc1_0 : l1_0.length ≤ c1_0) (hr1_1 : Kd.C k39 w A1_1 l1_1.length l1_1) (hc1_1 : l1_1.length ≤ c1_1) (h : spec_TableOK.f k a0_0 a0_1 l0_2 l1_0 l1_1 = some r) :
  Calls Tryz.prog 102 #[.agg #[.int .i64 a0_0, .int .i64 a0_1, .slice A0_2 l0_2.length c0_2], .agg #[.slice A1_0 l1_0.length c1_0, .slice A1_1 l1_1.length c1_1]] w fun e w' => e = .returned (.bool r) ∧ Below w.heap.size w w' := by
 have hu35 := Tryz.underlying35
 have hu53 := Tryz.underlying53
 have HR0_2 := Am hr0_2
 have HC0_2 := Am hc0_2
 clear hr0_2 hc0_2
 have HR1_0 := Am hr1_0
 have HC1_0 := Am hc1_0
 clear hr1_0 hc1_0
 have HR1_1 := Am hr1_1
 have HC1_1 := Am hc1_1
 clear hr1_1 hc1_1
 have HB := Am (Below.refl w.heap.size w)
 have H : ((spec_HoldsOK.f k a0_0 a0_1 l0_2 l1_0).bind fun t20 => (if t20 = true then ((spec_l08Waits.f k a0_0 a0_1 l0_2 l1_1).bind fun t21 => (some t21)) else (some false))) = some r := h
 clear h
 have HC3 := Am H
 clear H
 go_enter Tryz.func102, Tryz.ntmps102
 go_upto_region 1 with (first | ((with_reducible refine gate_dst (N := 2) rfl ?_); refine Xbx 2 #[.int .i64 a0_0, .int .i64 a0_1, .slice A0_2 l0_2.length c0_2] 35 ?_; intro gb22 hg w4 B22 GE22 hb; replace HB := Xhb hb; clear hb hg) | ((with_reducible refine gate_dst (N := 3) rfl ?_); refine Xbx 3 #[.slice A1_0 l1_0.length c1_0, .slice A1_1 l1_1.length c1_1] 53 ?_; intro gb23 hg w5 B23 GE23 hb; replace HB := Xhb hb; have NB22_23 := Xnb hg B22; have NB23_22 := Xns NB22_23; replace B22 := Xbb B22 hb; clear hb hg))
 have H := HC3.out
 clear HC3
 obtain ⟨t20, A6, H⟩ := Xbi H
 try dsimp only at H
 by_cases c7 : t20 = true
 ·subst c7
  try rw [if_pos rfl] at H
  obtain ⟨t21, A8, H⟩ := Xbi H
  try dsimp only at H
  obtain rfl := Xsi H
  have hnb9 := NB22_23.out
  have hnc9 := NB23_22.out
  obtain ⟨Z10_0, Z10_1, Z10_2⟩ := Xc3 B22
  obtain ⟨Z11_0, Z11_1⟩ := Xc2 B23
  go_wp2_with (first | ((with_reducible refine gate_callee (f := 87) rfl ?_); refine Xgo 8 Tryz.func87 #[.agg #[.int .i64 a0_0, .int .i64 a0_1, .slice A0_2 l0_2.length c0_2], .slice A1_0 l1_0.length c1_0] ?_; (with_reducible refine (spec_HoldsOK.calls k a0_0 a0_1 _ _ l0_2 _ _ l1_0 true _ ?s1 ?s2 ?s3 ?s4 A6.out).mono ?_); (case s1 => exact Xc HR0_2); (case s2 => exact HC0_2.out); (case s3 => exact Xc HR1_0); (case s4 => exact HC1_0.out); rintro e w12 ⟨rfl, hb⟩; refine ⟨_, rfl, ?_⟩; replace B22 := Xbb B22 hb; replace B23 := Xbb B23 hb; replace HB := Xhb hb; clear hb; obtain ⟨Z13_0, Z13_1, Z13_2⟩ := Xc3 B22; obtain ⟨Z14_0, Z14_1⟩ := Xc2 B23) | (go_at_call 149; (with_reducible refine (spec_l08Waits.calls k a0_0 a0_1 _ _ l0_2 _ _ l1_1 t21 _ ?s1 ?s2 ?s3 ?s4 A8.out).mono ?_); (case s1 => exact Xc HR0_2); (case s2 => exact HC0_2.out); (case s3 => exact Xc HR1_1); (case s4 => exact HC1_1.out); rintro e w15 ⟨rfl, hb⟩; replace B22 := Xbb B22 hb; replace B23 := Xbb B23 hb; replace HB := Xhb hb; clear hb))
  go_ret
  exact ⟨Xe, Xi⟩
 replace c7 := Xbf c7
 subst c7
 try rw [if_neg Xft] at H
 obtain rfl := Xsi H
 have hnb16 := NB22_23.out
 have hnc16 := NB23_22.out
 obtain ⟨Z17_0, Z17_1, Z17_2⟩ := Xc3 B22
 obtain ⟨Z18_0, Z18_1⟩ := Xc2 B23
 go_wp2_with (first | ((with_reducible refine gate_callee (f := 87) rfl ?_); refine Xgo 8 Tryz.func87 #[.agg #[.int .i64 a0_0, .int .i64 a0_1, .slice A0_2 l0_2.length c0_2], .slice A1_0 l1_0.length c1_0] ?_; (with_reducible refine (spec_HoldsOK.calls k a0_0 a0_1 _ _ l0_2 _ _ l1_0 false _ ?s1 ?s2 ?s3 ?s4 A6.out).mono ?_); (case s1 => exact Xc HR0_2); (case s2 => exact HC0_2.out); (case s3 => exact Xc HR1_0); (case s4 => exact HC1_0.out); rintro e w19 ⟨rfl, hb⟩; refine ⟨_, rfl, ?_⟩; replace B22 := Xbb B22 hb; replace B23 := Xbb B23 hb; replace HB := Xhb hb; clear hb))
 go_ret
 exact ⟨Xe, Xi⟩
def spec_l08Ask.f (k : Nat) (a0_0 : Int) (a0_1 : Int) (l0_2 : List (S113)) (l1_0 : List (S39)) (l1_1 : List (S39)) (a2 : Int) : Option (Int) := (spec_TableOK.f k a0_0 a0_1 l0_2 l1_0 l1_1).bind fun t10 => (if t10 = true then ((spec_l01In.f a2 1 999).bind fun t11 => (if t11 = true then (some 0) else (some 4))) else (some 1))
theorem spec_l08Ask.calls (k : Nat) (a0_0 : Int) (a0_1 : Int) (A0_2 : Option Addr) (c0_2 : Nat) (l0_2 : List (S113)) (A1_0 : Option Addr) (c1_0 : Nat) (l1_0 : List (S39)) (A1_1 : Option Addr) (c1_1 : Nat) (l1_1 : List (S39)) (a2 : Int) (r : Int) (w : World) (hr0_2 : Kd.C k113 w A0_2 l0_2.length l0_2) (hc0_2 : l0_2.length ≤ c0_2) (hr1_0 : Kd.C k39 w A1_0 l1_0.length l1_0) (hc1_0 : l1_0.length ≤ c1_0) (hr1_1 : Kd.C k39 w A1_1 l1_1.length l1_1) (hc1_1 : l1_1.length ≤ c1_1) (h : spec_l08Ask.f k a0_0 a0_1 l0_2 l1_0 l1_1 a2 = some r) :
  Calls Tryz.prog 54 #[.agg #[.int .i64 a0_0, .int .i64 a0_1, .slice A0_2 l0_2.length c0_2], .agg #[.slice A1_0 l1_0.length c1_0, .slice A1_1 l1_1.length c1_1], .int .i64 a2] w fun e w' => e = .returned (.int .i64 r) ∧ Below w.heap.size w w' := by
 have hu35 := Tryz.underlying35
 have hu53 := Tryz.underlying53
 have HR0_2 := Am hr0_2
 have HC0_2 := Am hc0_2
 clear hr0_2 hc0_2
 have HR1_0 := Am hr1_0
 have HC1_0 := Am hc1_0
 clear hr1_0 hc1_0
 have HR1_1 := Am hr1_1
 have HC1_1 := Am hc1_1
 clear hr1_1 hc1_1
 have HB := Am (Below.refl w.heap.size w)
 have H : ((spec_TableOK.f k a0_0 a0_1 l0_2 l1_0 l1_1).bind fun t16 => (if t16 = true then ((spec_l01In.f a2 1 999).bind fun t17 => (if t17 = true then (some 0) else (some 4))) else (some 1))) = some r := h
 clear h
 obtain ⟨t16, A4, H⟩ := Xbi H
 try dsimp only at H
 have HC5 := Am H
 clear H
 go_enter Tryz.func54, Tryz.ntmps54
 go_upto_if 10 with (first | ((with_reducible refine gate_dst (N := 3) rfl ?_); refine Xbx 3 #[.int .i64 a0_0, .int .i64 a0_1, .slice A0_2 l0_2.length c0_2] 35 ?_; intro gb18 hg w6 B18 GE18 hb; replace HB := Xhb hb; clear hb hg) | ((with_reducible refine gate_dst (N := 4) rfl ?_); refine Xbx 4 #[.slice A1_0 l1_0.length c1_0, .slice A1_1 l1_1.length c1_1] 53 ?_; intro gb19 hg w7 B19 GE19 hb; replace HB := Xhb hb; have NB18_19 := Xnb hg B18; have NB19_18 := Xns NB18_19; replace B18 := Xbb B18 hb; clear hb hg; have hnb8 := NB18_19.out; have hnc8 := NB19_18.out; obtain ⟨Z9_0, Z9_1, Z9_2⟩ := Xc3 B18; obtain ⟨Z10_0, Z10_1⟩ := Xc2 B19) | ((with_reducible refine gate_callee (f := 102) rfl ?_); refine Xgo 9 Tryz.func102 #[.agg #[.int .i64 a0_0, .int .i64 a0_1, .slice A0_2 l0_2.length c0_2], .agg #[.slice A1_0 l1_0.length c1_0, .slice A1_1 l1_1.length c1_1]] ?_; (with_reducible refine (spec_TableOK.calls k a0_0 a0_1 _ _ l0_2 _ _ l1_0 _ _ l1_1 t16 _ ?s1 ?s2 ?s3 ?s4 ?s5 ?s6 A4.out).mono ?_); (case s1 => exact Xc HR0_2); (case s2 => exact HC0_2.out); (case s3 => exact Xc HR1_0); (case s4 => exact HC1_0.out); (case s5 => exact Xc HR1_1); (case s6 => exact HC1_1.out); rintro e w11 ⟨rfl, hb⟩; refine ⟨_, rfl, ?_⟩; replace B18 := Xbb B18 hb; replace B19 := Xbb B19 hb; replace HB := Xhb hb; clear hb))
 have H := HC5.out
 clear HC5
 by_cases c12 : t16 = true
 ·subst c12
  try rw [if_pos rfl] at H
  obtain ⟨t17, A13, H⟩ := Xbi H
  try dsimp only at H
  have HC14 := Am H
  clear H
  go_upto_if 13 with ((with_reducible refine gate_callee (f := 88) rfl ?_); refine Xgo 12 Tryz.func88 #[.int .i64 a2, .int .i64 1, .int .i64 999] ?_; (with_reducible refine (spec_l01In.calls a2 1 999 t17 _ A13.out).mono ?_); rintro e w' ⟨rfl, ⟨nd, rfl⟩⟩; refine ⟨_, rfl, ?_⟩)
  have H := HC14.out
  clear HC14
  by_cases c15 : t17 = true
  ·subst c15
   try rw [if_pos rfl] at H
   obtain rfl := Xsi H
   go_wp2
   go_ret
   exact ⟨Xe, Xi⟩
  replace c15 := Xbf c15
  subst c15
  try rw [if_neg Xft] at H
  obtain rfl := Xsi H
  go_wp2
  go_ret
  exact ⟨Xe, Xi⟩
 replace c12 := Xbf c12
 subst c12
 try rw [if_neg Xft] at H
 obtain rfl := Xsi H
 go_wp2
 go_ret
 exact ⟨Xe, Xi⟩
def spec_l08Rise.l0 : Nat → List Int → Int → List Int → Bool → Int → Option (List Int)
 | 0, _, _, _, _, _ => none
 | k + 1, x0, x1, x5, x6, x7 => if x7 < (x0.length : Int) then (if x6 = true then (if 0 ≤ x7 then (if x5.length < 17592186044416 then (spec_l08Rise.l0 k x0 x1 (x5 ++ [rd x0 x7]) x6 (wrap64 (x7 + 1))) else (none)) else (none)) else (if 0 ≤ x7 then (if (rd x0 x7) > x1 then (if x5.length < 17592186044416 then ((some (x5 ++ [x1] : List Int)).bind fun y10 => (if y10.length < 17592186044416 then (spec_l08Rise.l0 k x0 x1 (y10 ++ [rd x0 x7]) true (wrap64 (x7 + 1))) else (none))) else (none)) else (if x5.length < 17592186044416 then (spec_l08Rise.l0 k x0 x1 (x5 ++ [rd x0 x7]) x6 (wrap64 (x7 + 1))) else (none))) else (none))) else (if x6 = true then (some x5) else (if x5.length < 17592186044416 then (some (x5 ++ [x1])) else (none)))
def spec_l08Rise.f (k : Nat) (l0 : List Int) (a1 : Int) : Option (List Int) := spec_l08Rise.l0 k l0 a1 (([] : List Int)) false 0
theorem spec_l08Rise.calls (k : Nat) (A0 : Option Addr) (c0 : Nat) (l0 : List Int) (a1 : Int) (r : List Int) (w : World) (hr0 : Kd.C (Kd.int .i64) w A0 l0.length l0) (hc0 : l0.length ≤ c0) (h : spec_l08Rise.f k l0 a1 = some r) :
  Calls Tryz.prog 105 #[.slice A0 l0.length c0, .int .i64 a1] w fun e w' => ∃ v0_ : Value, e = .returned (v0_) ∧ Kd.R (Kd.int .i64) 3 w' w.heap.size (fun _ => True) v0_ r ∧ Below w.heap.size w w' := by
 have HR0 := Am hr0
 have HC0 := Am hc0
 clear hr0 hc0
 have HB := Am (Below.refl w.heap.size w)
 have H : (spec_l08Rise.l0 k l0 a1 (([] : List Int)) false 0) = some r := h
 clear h
 obtain ⟨y21, hy21⟩ : ∃ y_ : List Int, y_ = (([] : List Int)) := ⟨_, rfl⟩
 replace H : (spec_l08Rise.l0 k l0 a1 y21 false 0) = some r := by first | (rw [hy21]; with_reducible exact H) | (have H2_ := (Option.bind_some _ _).symm.trans H; rw [hy21]; with_reducible exact H2_) | (have H2_ := (Option.bind_some _ _).symm.trans H; with_reducible exact H2_) | with_reducible exact H | (rw [hy21]; exact H) | exact H
 have Ny21 := Am hy21
 clear hy21
 have H' := Am H
 clear H
 go_enter Tryz.func105, Tryz.ntmps105
 go_wp2_with (first | ((with_reducible refine gate_dst (N := 8) rfl ?_); refine Kd.R_lit (Kd.int .i64) _ 3 ?hg (N := 8) ?hd (xs := ([] : List Int)) (inner := []) (ok := fun _ => True) (okp := fun _ => True) ?hr ?hp (fun _ hk => hk) trivial (Below.refl _ _) (Nat.le_refl _) (by simp) ?_; (case hd => rfl); (case hg => rfl); (case hr => first | (go_simp; done) | (go_simp; rfl)); (case hp => exact (Reps.none _ _)); intro v267 w3 ho4 hb hg_ hnew_; clear hg_ hnew_; (first | rw [← Ny21.out] at ho4 | (simp only [Int.reduceToNat] at ho4; rw [← Ny21.out] at ho4)); have HO22 := Am (Kd.R_lower ho4 (below_size Xi)); replace HB := Xhb hb; clear hb ho4))
 go_loopg [5, 6, 7] k (fun kq v5 v6 v7 w' => ∃ (x5_1 : List Int) (x6_1 : Bool) (x7_1 : Int), v6 = .bool x6_1 ∧ v7 = .int .i64 x7_1 ∧ Aside0 (spec_l08Rise.l0 kq l0 a1 x5_1 x6_1 x7_1 = some r) ∧ Aside0 (kq ≤ k) ∧ Aside0 (Kd.R (Kd.int .i64) 3 w' w.heap.size (fun _ => True) v5 x5_1) ∧ Aside0 (Below w.heap.size w w'))
 case atStart => exact ⟨(y21), (false), (0), Xr, Xr, H', Xkr, (Xp' HO22), ⟨Xi⟩⟩
 clear H'
 obtain ⟨x5_1, x6_1, x7_1, rfl, rfl, HA, HK1, O_5, HB⟩ := hrel
 cases gk with | zero => cases HA.out | succ k1 => ?_
 have H := HA.out
 clear HA
 simp only [spec_l08Rise.l0] at H
 obtain ⟨c5b0, H⟩ | ⟨c5b0, H⟩ := Xit H
 ·by_cases c6 : x6_1 = true
  ·subst c6
   try rw [if_pos rfl] at H
   obtain ⟨c7b0, H⟩ := Xid H
   obtain ⟨c8, H⟩ := Xif H
   have LMc8 := Am c8
   clear c8
   obtain ⟨y23, hy23⟩ : ∃ y_ : List Int, y_ = (x5_1 ++ [rd l0 x7_1]) := ⟨_, rfl⟩
   replace H : (spec_l08Rise.l0 k1 l0 a1 y23 true (wrap64 (x7_1 + 1))) = some r := by first | (rw [hy23]; with_reducible exact H) | (have H2_ := (Option.bind_some _ _).symm.trans H; rw [hy23]; with_reducible exact H2_) | (have H2_ := (Option.bind_some _ _).symm.trans H; with_reducible exact H2_) | with_reducible exact H | (rw [hy23]; exact H) | exact H
   have Ny23 := Am hy23
   clear hy23
   have H' := Am H
   clear H
   have p24 : 0 ≤ (x7_1 : Int) := Xo
   have q24 : x7_1 < (l0.length : Int) := Xo
   obtain ⟨ad24, e24, hx24_0⟩ := Kd.at_int HR0.out x7_1 p24 q24
   cases e24
   replace hx24_0 := Xm HB hx24_0
   replace p24 := eq_true p24
   replace q24 := eq_true q24
   go_wp2_with (first | ((with_reducible refine gate_builtin (b := .append) (xs := #[.tmp 29, .tmp 34]) rfl ?_); at_builtin; refine Kd.R_append (Kd.int .i64) (w0 := w) w.heap.size rfl (.tmp 29) (.tmp 34) 30 3 (.int .i64 0) 8 rfl Tryz.underlying30 info3 rfl (by decide) (by omega) u5 x5_1 (rd l0 x7_1) [.int .i64 (rd l0 x7_1)] (fun _ => True) (fun _ => False) rfl rfl ?aP (fun _ hk => hk.elim) ?aF ?aO ?aB ?aS ?aL ?_; (case aP => exact rfl); (case aB => exact Xi); (case aF => exact (fun _ _ => trivial)); (case aO => exact (Xq O_5)); (case aS => exact (below_size Xi)); (case aL => have := LMc8.out; omega); intro v271 w9 ho hb hg hat; rw [← Ny23.out] at ho; replace HB := Am (hb); have HO25 := Am (ho); clear O_5; clear ho hb hg hat))
   go_roundg k1
   case measure => have := HK1.out; omega
   case rel => exact ⟨(y23), (true), (wrap64 (x7_1 + 1)), Xr, Xr, H', Xk1, (Xp' HO25), ⟨Xi⟩⟩
  replace c6 := Xbf c6
  subst c6
  try rw [if_neg Xft] at H
  obtain ⟨c10b0, H⟩ := Xid H
  obtain ⟨c11, H⟩ | ⟨c11, H⟩ := Xiu H
  ·have c11b0 : decide (a1 < (rd l0 x7_1)) = true := decide_eq_true c11
   clear c11
   obtain ⟨c12, H⟩ := Xif H
   have LMc12 := Am c12
   clear c12
   obtain ⟨y26, hy26⟩ : ∃ y_ : List Int, y_ = (x5_1 ++ [a1]) := ⟨_, rfl⟩
   replace H : (if y26.length < 17592186044416 then (spec_l08Rise.l0 k1 l0 a1 (y26 ++ [rd l0 x7_1]) true (wrap64 (x7_1 + 1))) else (none)) = some r := by first | (rw [hy26]; with_reducible exact H) | (have H2_ := (Option.bind_some _ _).symm.trans H; rw [hy26]; with_reducible exact H2_) | (have H2_ := (Option.bind_some _ _).symm.trans H; with_reducible exact H2_) | with_reducible exact H | (rw [hy26]; exact H) | exact H
   have Ny26 := Am hy26
   clear hy26
   obtain ⟨c13, H⟩ := Xif H
   have LMc13 := Am c13
   clear c13
   obtain ⟨y27, hy27⟩ : ∃ y_ : List Int, y_ = (y26 ++ [rd l0 x7_1]) := ⟨_, rfl⟩
   replace H : (spec_l08Rise.l0 k1 l0 a1 y27 true (wrap64 (x7_1 + 1))) = some r := by first | (rw [hy27]; with_reducible exact H) | (have H2_ := (Option.bind_some _ _).symm.trans H; rw [hy27]; with_reducible exact H2_) | (have H2_ := (Option.bind_some _ _).symm.trans H; with_reducible exact H2_) | with_reducible exact H | (rw [hy27]; exact H) | exact H
   have Ny27 := Am hy27
   clear hy27
   have H' := Am H
   clear H
   have p28 : 0 ≤ (x7_1 : Int) := Xo
   have q28 : x7_1 < (l0.length : Int) := Xo
   obtain ⟨ad28, e28, hx28_0⟩ := Kd.at_int HR0.out x7_1 p28 q28
   cases e28
   replace hx28_0 := Xm HB hx28_0
   replace p28 := eq_true p28
   replace q28 := eq_true q28
   go_wp2_with (first | ((with_reducible refine gate_builtin (b := .append) (xs := #[.tmp 25, .tmp 27]) rfl ?_); at_builtin; refine Kd.R_append (Kd.int .i64) (w0 := w) w.heap.size rfl (.tmp 25) (.tmp 27) 30 3 (.int .i64 0) 8 rfl Tryz.underlying30 info3 rfl (by decide) (by omega) u5 x5_1 a1 [.int .i64 a1] (fun _ => True) (fun _ => False) rfl rfl ?aP (fun _ hk => hk.elim) ?aF ?aO ?aB ?aS ?aL ?_; (case aP => exact rfl); (case aB => exact Xi); (case aF => exact (fun _ _ => trivial)); (case aO => exact (Xq O_5)); (case aS => exact (below_size Xi)); (case aL => have := LMc12.out; omega); intro v275 w14 ho hb hg hat; rw [← Ny26.out] at ho; replace HB := Am (hb); have HO29 := Am (ho); clear O_5; clear ho hb hg hat; have p30 : 0 ≤ (x7_1 : Int) := Xo; have q30 : x7_1 < (l0.length : Int) := Xo; obtain ⟨ad30, e30, hx30_0⟩ := Kd.at_int HR0.out x7_1 p30 q30; obtain rfl : ad28 = ad30 := (by injection e30); replace hx30_0 := Xm HB hx30_0; replace p30 := eq_true p30; replace q30 := eq_true q30) | ((with_reducible refine gate_builtin (b := .append) (xs := #[.tmp 29, .tmp 34]) rfl ?_); at_builtin; refine Kd.R_append (Kd.int .i64) (w0 := w) w.heap.size rfl (.tmp 29) (.tmp 34) 30 3 (.int .i64 0) 8 rfl Tryz.underlying30 info3 rfl (by decide) (by omega) v275 y26 (rd l0 x7_1) [.int .i64 (rd l0 x7_1)] (fun _ => True) (fun _ => False) rfl rfl ?aP (fun _ hk => hk.elim) ?aF ?aO ?aB ?aS ?aL ?_; (case aP => exact rfl); (case aB => exact Xi); (case aF => exact (fun _ _ => trivial)); (case aO => exact (Xq HO29)); (case aS => exact (below_size Xi)); (case aL => have := LMc13.out; omega); intro v279 w15 ho hb hg hat; rw [← Ny27.out] at ho; replace HB := Am (hb); have HO31 := Am (ho); clear HO29; clear ho hb hg hat))
   go_roundg k1
   case measure => have := HK1.out; omega
   case rel => exact ⟨(y27), (true), (wrap64 (x7_1 + 1)), Xr, Xr, H', Xk1, (Xp' HO31), ⟨Xi⟩⟩
  have c11b0 : decide (a1 < (rd l0 x7_1)) = false := decide_eq_false c11
  clear c11
  obtain ⟨c16, H⟩ := Xif H
  have LMc16 := Am c16
  clear c16
  obtain ⟨y32, hy32⟩ : ∃ y_ : List Int, y_ = (x5_1 ++ [rd l0 x7_1]) := ⟨_, rfl⟩
  replace H : (spec_l08Rise.l0 k1 l0 a1 y32 false (wrap64 (x7_1 + 1))) = some r := by first | (rw [hy32]; with_reducible exact H) | (have H2_ := (Option.bind_some _ _).symm.trans H; rw [hy32]; with_reducible exact H2_) | (have H2_ := (Option.bind_some _ _).symm.trans H; with_reducible exact H2_) | with_reducible exact H | (rw [hy32]; exact H) | exact H
  have Ny32 := Am hy32
  clear hy32
  have H' := Am H
  clear H
  have p28 : 0 ≤ (x7_1 : Int) := Xo
  have q28 : x7_1 < (l0.length : Int) := Xo
  obtain ⟨ad28, e28, hx28_0⟩ := Kd.at_int HR0.out x7_1 p28 q28
  cases e28
  replace hx28_0 := Xm HB hx28_0
  replace p28 := eq_true p28
  replace q28 := eq_true q28
  have p33 : 0 ≤ (x7_1 : Int) := Xo
  have q33 : x7_1 < (l0.length : Int) := Xo
  obtain ⟨ad33, e33, hx33_0⟩ := Kd.at_int HR0.out x7_1 p33 q33
  obtain rfl : ad28 = ad33 := (by injection e33)
  replace hx33_0 := Xm HB hx33_0
  replace p33 := eq_true p33
  replace q33 := eq_true q33
  go_wp2_with (first | ((with_reducible refine gate_builtin (b := .append) (xs := #[.tmp 29, .tmp 34]) rfl ?_); at_builtin; refine Kd.R_append (Kd.int .i64) (w0 := w) w.heap.size rfl (.tmp 29) (.tmp 34) 30 3 (.int .i64 0) 8 rfl Tryz.underlying30 info3 rfl (by decide) (by omega) u5 x5_1 (rd l0 x7_1) [.int .i64 (rd l0 x7_1)] (fun _ => True) (fun _ => False) rfl rfl ?aP (fun _ hk => hk.elim) ?aF ?aO ?aB ?aS ?aL ?_; (case aP => exact rfl); (case aB => exact Xi); (case aF => exact (fun _ _ => trivial)); (case aO => exact (Xq O_5)); (case aS => exact (below_size Xi)); (case aL => have := LMc16.out; omega); intro v283 w17 ho hb hg hat; rw [← Ny32.out] at ho; replace HB := Am (hb); have HO34 := Am (ho); clear O_5; clear ho hb hg hat))
  go_roundg k1
  case measure => have := HK1.out; omega
  case rel => exact ⟨(y32), (false), (wrap64 (x7_1 + 1)), Xr, Xr, H', Xk1, (Xp' HO34), ⟨Xi⟩⟩
 by_cases c18 : x6_1 = true
 ·subst c18
  try rw [if_pos rfl] at H
  obtain rfl := Xsi H
  go_wp2
  go_ret
  exact ⟨_, Xe, Xq O_5, Xi⟩
 replace c18 := Xbf c18
 subst c18
 try rw [if_neg Xft] at H
 obtain ⟨c19, H⟩ | ⟨c19, H⟩ := Xiu H
 ·have LMc19 := Am c19
  clear c19
  obtain ⟨y35, hy35⟩ : ∃ y_ : List Int, y_ = (x5_1 ++ [a1]) := ⟨_, rfl⟩
  replace H : (some y35) = some r := by first | (rw [hy35]; with_reducible exact H) | (have H2_ := (Option.bind_some _ _).symm.trans H; rw [hy35]; with_reducible exact H2_) | (have H2_ := (Option.bind_some _ _).symm.trans H; with_reducible exact H2_) | with_reducible exact H | (rw [hy35]; exact H) | exact H
  have Ny35 := Am hy35
  clear hy35
  obtain rfl := Xsi H
  go_wp2_with (first | ((with_reducible refine gate_builtin (b := .append) (xs := #[.tmp 38, .tmp 40]) rfl ?_); at_builtin; refine Kd.R_append (Kd.int .i64) (w0 := w) w.heap.size rfl (.tmp 38) (.tmp 40) 30 3 (.int .i64 0) 8 rfl Tryz.underlying30 info3 rfl (by decide) (by omega) u5 x5_1 a1 [.int .i64 a1] (fun _ => True) (fun _ => False) rfl rfl ?aP (fun _ hk => hk.elim) ?aF ?aO ?aB ?aS ?aL ?_; (case aP => exact rfl); (case aB => exact Xi); (case aF => exact (fun _ _ => trivial)); (case aO => exact (Xq O_5)); (case aS => exact (below_size Xi)); (case aL => have := LMc19.out; omega); intro v286 w20 ho hb hg hat; rw [← Ny35.out] at ho; replace HB := Am (hb); have HO36 := Am (ho); clear O_5; clear ho hb hg hat))
  go_ret
  exact ⟨_, Xe, Xq HO36, Xi⟩
 exact absurd H (by simp)
def spec_l08At.l0 : Nat → Int → Int → List (S39) → List (S39) → Option (Int)
 | 0, _, _, _, _ => none
 | k + 1, x1, x5, x289000, x289001 => if x5 < (x289001.length : Int) then (if 0 ≤ x5 then (if ((rd_T39 x289001 x5).f0) = x1 then (some x5) else (spec_l08At.l0 k x1 (wrap64 (x5 + 1)) x289000 x289001)) else (none)) else (some (-1))
def spec_l08At.f (k : Nat) (l0_0 : List (S39)) (l0_1 : List (S39)) (a1 : Int) : Option (Int) := spec_l08At.l0 k a1 0 l0_0 l0_1
theorem spec_l08At.calls (k : Nat) (A0_0 : Option Addr) (c0_0 : Nat) (l0_0 : List (S39)) (A0_1 : Option Addr) (c0_1 : Nat) (l0_1 : List (S39)) (a1 : Int) (r : Int) (w : World) (hr0_0 : Kd.C k39 w A0_0 l0_0.length l0_0) (hc0_0 : l0_0.length ≤ c0_0) (hr0_1 : Kd.C k39 w A0_1 l0_1.length l0_1) (hc0_1 : l0_1.length ≤ c0_1) (h : spec_l08At.f k l0_0 l0_1 a1 = some r) :
  Calls Tryz.prog 55 #[.agg #[.slice A0_0 l0_0.length c0_0, .slice A0_1 l0_1.length c0_1], .int .i64 a1] w fun e w' => e = .returned (.int .i64 r) ∧ Below w.heap.size w w' := by
 have hu53 := Tryz.underlying53
 have HR0_0 := Am hr0_0
 have HC0_0 := Am hc0_0
 clear hr0_0 hc0_0
 have HR0_1 := Am hr0_1
 have HC0_1 := Am hc0_1
 clear hr0_1 hc0_1
 have HB := Am (Below.refl w.heap.size w)
 have H : (spec_l08At.l0 k a1 0 l0_0 l0_1) = some r := h
 clear h
 have H' := Am H
 clear H
 go_enter Tryz.func55, Tryz.ntmps55
 go_wp2_with (first | ((with_reducible refine gate_dst (N := 2) rfl ?_); refine Xbx 2 #[.slice A0_0 l0_0.length c0_0, .slice A0_1 l0_1.length c0_1] 53 ?_; intro gb10 hg w3 B10 GE10 hb; replace HB := Xhb hb; clear hb hg))
 go_loopg [5] k (fun kq v5 w' => ∃ (x5_1 : Int), v5 = .int .i64 x5_1 ∧ Aside0 (spec_l08At.l0 kq a1 x5_1 l0_0 l0_1 = some r) ∧ Aside0 (kq ≤ k) ∧ Aside0 (w'.heap[gb10]? = some (.cells #[(.slice A0_0 l0_0.length c0_0), (.slice A0_1 l0_1.length c0_1)] 53 (0, 0))) ∧ Aside0 (Below w.heap.size w w'))
 case atStart => exact ⟨(0), Xr, H', Xkr, B10, ⟨Xi⟩⟩
 clear H'
 obtain ⟨x5_1, rfl, HA, HK1, B10, HB⟩ := hrel
 cases gk with | zero => cases HA.out | succ k1 => ?_
 have H := HA.out
 clear HA
 simp only [spec_l08At.l0] at H
 obtain ⟨c4b0, H⟩ | ⟨c4b0, H⟩ := Xit H
 ·obtain ⟨c5b0, H⟩ := Xid H
  obtain ⟨c6, H⟩ | ⟨c6, H⟩ := Xiu H
  ·have c6b0 : (((rd_T39 l0_1 x5_1).f0) == a1) = true := beq_iff_eq.mpr c6
   have c6b1 : (((rd_T39 l0_1 x5_1).f0) != a1) = false := bne_eq_false_iff_eq.mpr c6
   clear c6
   obtain rfl := Xsi H
   obtain ⟨Z7_0, Z7_1⟩ := Xc2 B10
   obtain ⟨ad11, e11, p11, q11, hx11_0, hx11_1, hx11_2⟩ := at_B39 HR0_1 x5_1 Xa Xa HB
   cases e11
   go_wp2
   go_ret
   exact ⟨Xe, Xi⟩
  have c6b0 : (((rd_T39 l0_1 x5_1).f0) == a1) = false := beq_eq_false_iff_ne.mpr c6
  have c6b1 : (((rd_T39 l0_1 x5_1).f0) != a1) = true := bne_iff_ne.mpr c6
  have H' := Am H
  clear H
  obtain ⟨Z8_0, Z8_1⟩ := Xc2 B10
  obtain ⟨ad11, e11, p11, q11, hx11_0, hx11_1, hx11_2⟩ := at_B39 HR0_1 x5_1 Xa Xa HB
  cases e11
  go_wp2
  go_roundg k1
  case measure => have := HK1.out; omega
  case rel => exact ⟨(wrap64 (x5_1 + 1)), Xr, H', Xk1, B10, ⟨Xi⟩⟩
 obtain rfl := Xsi H
 obtain ⟨Z9_0, Z9_1⟩ := Xc2 B10
 go_wp2
 go_ret
 exact ⟨Xe, Xi⟩
def spec_l07Sessions.l0 : Nat → List (S39) → List Int → Int → Option (List Int)
 | 0, _, _, _ => none
 | k + 1, x0, x3, x4 => if x4 < (x0.length : Int) then (if (x3.length : Int) = 0 then (if 0 ≤ x4 then (if x3.length < 17592186044416 then (spec_l07Sessions.l0 k x0 (x3 ++ [(rd_T39 x0 x4).f0]) (wrap64 (x4 + 1))) else (none)) else (none)) else (if 0 ≤ (wrap64 ((x3.length : Int) - 1)) then (if (wrap64 ((x3.length : Int) - 1)) < (x3.length : Int) then (if 0 ≤ x4 then (if (rd x3 (wrap64 ((x3.length : Int) - 1))) = ((rd_T39 x0 x4).f0) then (spec_l07Sessions.l0 k x0 x3 (wrap64 (x4 + 1))) else (if x3.length < 17592186044416 then (spec_l07Sessions.l0 k x0 (x3 ++ [(rd_T39 x0 x4).f0]) (wrap64 (x4 + 1))) else (none))) else (none)) else (none)) else (none))) else (some x3)
def spec_l07Sessions.f (k : Nat) (l0 : List (S39)) : Option (List Int) := spec_l07Sessions.l0 k l0 (([] : List Int)) 0
theorem spec_l07Sessions.calls (k : Nat) (A0 : Option Addr) (c0 : Nat) (l0 : List (S39)) (r : List Int) (w : World) (hr0 : Kd.C k39 w A0 l0.length l0) (hc0 : l0.length ≤ c0) (h : spec_l07Sessions.f k l0 = some r) :
  Calls Tryz.prog 90 #[.slice A0 l0.length c0] w fun e w' => ∃ v0_ : Value, e = .returned (v0_) ∧ Kd.R (Kd.int .i64) 3 w' w.heap.size (fun _ => True) v0_ r ∧ Below w.heap.size w w' := by
 have HR0 := Am hr0
 have HC0 := Am hc0
 clear hr0 hc0
 have HB := Am (Below.refl w.heap.size w)
 have H : (spec_l07Sessions.l0 k l0 (([] : List Int)) 0) = some r := h
 clear h
 obtain ⟨y19, hy19⟩ : ∃ y_ : List Int, y_ = (([] : List Int)) := ⟨_, rfl⟩
 replace H : (spec_l07Sessions.l0 k l0 y19 0) = some r := by first | (rw [hy19]; with_reducible exact H) | (have H2_ := (Option.bind_some _ _).symm.trans H; rw [hy19]; with_reducible exact H2_) | (have H2_ := (Option.bind_some _ _).symm.trans H; with_reducible exact H2_) | with_reducible exact H | (rw [hy19]; exact H) | exact H
 have Ny19 := Am hy19
 clear hy19
 have H' := Am H
 clear H
 go_enter Tryz.func90, Tryz.ntmps90
 go_wp2_with (first | ((with_reducible refine gate_dst (N := 5) rfl ?_); (try (refine gate_guard (by rfl) ?_; dsimp only)); refine Kd.R_lit (Kd.int .i64) _ 3 ?hg (N := 5) ?hd (xs := ([] : List Int)) (inner := []) (ok := fun _ => True) (okp := fun _ => True) ?hr ?hp (fun _ hk => hk) trivial (Below.refl _ _) (Nat.le_refl _) (by simp) ?_; (case hd => rfl); (case hg => rfl); (case hr => first | (go_simp; done) | (go_simp; rfl)); (case hp => exact (Reps.none _ _)); intro v291 w2 ho3 hb hg_ hnew_; clear hg_ hnew_; (first | rw [← Ny19.out] at ho3 | (simp only [Int.reduceToNat] at ho3; rw [← Ny19.out] at ho3)); have HO20 := Am (Kd.R_lower ho3 (below_size Xi)); replace HB := Xhb hb; clear hb ho3))
 repeat (go_quiet (first | ((with_reducible refine gate_dst (N := 5) rfl ?_); (try (refine gate_guard (by rfl) ?_; dsimp only)); refine Kd.R_lit (Kd.int .i64) _ 3 ?hg (N := 5) ?hd (xs := ([] : List Int)) (inner := []) (ok := fun _ => True) (okp := fun _ => True) ?hr ?hp (fun _ hk => hk) trivial (Below.refl _ _) (Nat.le_refl _) (by simp) ?_; (case hd => rfl); (case hg => rfl); (case hr => first | (go_simp; done) | (go_simp; rfl)); (case hp => exact (Reps.none _ _)); intro v291 w2 ho3 hb hg_ hnew_; clear hg_ hnew_; (first | rw [← Ny19.out] at ho3 | (simp only [Int.reduceToNat] at ho3; rw [← Ny19.out] at ho3)); have HO20 := Am (Kd.R_lower ho3 (below_size Xi)); replace HB := Xhb hb; clear hb ho3)); try go_wp2_with (first | ((with_reducible refine gate_dst (N := 5) rfl ?_); (try (refine gate_guard (by rfl) ?_; dsimp only)); refine Kd.R_lit (Kd.int .i64) _ 3 ?hg (N := 5) ?hd (xs := ([] : List Int)) (inner := []) (ok := fun _ => True) (okp := fun _ => True) ?hr ?hp (fun _ hk => hk) trivial (Below.refl _ _) (Nat.le_refl _) (by simp) ?_; (case hd => rfl); (case hg => rfl); (case hr => first | (go_simp; done) | (go_simp; rfl)); (case hp => exact (Reps.none _ _)); intro v291 w2 ho3 hb hg_ hnew_; clear hg_ hnew_; (first | rw [← Ny19.out] at ho3 | (simp only [Int.reduceToNat] at ho3; rw [← Ny19.out] at ho3)); have HO20 := Am (Kd.R_lower ho3 (below_size Xi)); replace HB := Xhb hb; clear hb ho3)))
 go_loopg [3, 4] k (fun kq v3 v4 w' => ∃ (x3_1 : List Int) (x4_1 : Int), v4 = .int .i64 x4_1 ∧ Aside0 (spec_l07Sessions.l0 kq l0 x3_1 x4_1 = some r) ∧ Aside0 (kq ≤ k) ∧ Aside0 (Kd.R (Kd.int .i64) 3 w' w.heap.size (fun _ => True) v3 x3_1) ∧ Aside0 (Below w.heap.size w w'))
 case atStart => exact ⟨(y19), (0), Xr, H', Xkr, (Xp' HO20), ⟨Xi⟩⟩
 clear H'
 obtain ⟨x3_1, x4_1, rfl, HA, HK1, O_3, HB⟩ := hrel
 cases gk with | zero => cases HA.out | succ k1 => ?_
 have H := HA.out
 clear HA
 simp only [spec_l07Sessions.l0] at H
 obtain ⟨c4b0, H⟩ | ⟨c4b0, H⟩ := Xit H
 ·obtain ⟨c5, H⟩ | ⟨c5, H⟩ := Xiu H
  ·have c5b0 : ((x3_1.length : Int) == 0) = true := beq_iff_eq.mpr c5
   have c5b1 : ((x3_1.length : Int) != 0) = false := bne_eq_false_iff_eq.mpr c5
   clear c5
   obtain ⟨c6b0, H⟩ := Xid H
   obtain ⟨c7, H⟩ := Xif H
   have LMc7 := Am c7
   clear c7
   obtain ⟨y21, hy21⟩ : ∃ y_ : List Int, y_ = (x3_1 ++ [(rd_T39 l0 x4_1).f0]) := ⟨_, rfl⟩
   replace H : (spec_l07Sessions.l0 k1 l0 y21 (wrap64 (x4_1 + 1))) = some r := by first | (rw [hy21]; with_reducible exact H) | (have H2_ := (Option.bind_some _ _).symm.trans H; rw [hy21]; with_reducible exact H2_) | (have H2_ := (Option.bind_some _ _).symm.trans H; with_reducible exact H2_) | with_reducible exact H | (rw [hy21]; exact H) | exact H
   have Ny21 := Am hy21
   clear hy21
   have H' := Am H
   clear H
   obtain ⟨Ao8, co8, eo8⟩ := Kd.R_slice O_3.out
   subst eo8
   obtain ⟨ad22, e22, p22, q22, hx22_0, hx22_1, hx22_2⟩ := at_B39 HR0 x4_1 Xa Xa HB
   cases e22
   go_wp2_with (first | ((with_reducible refine gate_builtin (b := .append) (xs := #[.tmp 29, .tmp 35]) rfl ?_); (try (refine gate_guard (by rfl) ?_; dsimp only)); at_builtin; refine Kd.R_append (Kd.int .i64) (w0 := w) w.heap.size rfl (.tmp 29) (.tmp 35) 30 3 (.int .i64 0) 8 rfl Tryz.underlying30 info3 rfl (by decide) (by omega) (.slice Ao8 x3_1.length co8) x3_1 ((rd_T39 l0 x4_1).f0) [.int .i64 ((rd_T39 l0 x4_1).f0)] (fun _ => True) (fun _ => False) rfl rfl ?aP (fun _ hk => hk.elim) ?aF ?aO ?aB ?aS ?aL ?_; (case aP => exact rfl); (case aB => exact Xi); (case aF => exact (fun _ _ => trivial)); (case aO => exact (Xq O_3)); (case aS => exact (below_size Xi)); (case aL => have := LMc7.out; omega); intro v295 w9 ho hb hg hat; rw [← Ny21.out] at ho; replace HB := Am (hb); have HO23 := Am (ho); clear O_3; clear ho hb hg hat))
   repeat (go_quiet (first | ((with_reducible refine gate_builtin (b := .append) (xs := #[.tmp 29, .tmp 35]) rfl ?_); (try (refine gate_guard (by rfl) ?_; dsimp only)); at_builtin; refine Kd.R_append (Kd.int .i64) (w0 := w) w.heap.size rfl (.tmp 29) (.tmp 35) 30 3 (.int .i64 0) 8 rfl Tryz.underlying30 info3 rfl (by decide) (by omega) (.slice Ao8 x3_1.length co8) x3_1 ((rd_T39 l0 x4_1).f0) [.int .i64 ((rd_T39 l0 x4_1).f0)] (fun _ => True) (fun _ => False) rfl rfl ?aP (fun _ hk => hk.elim) ?aF ?aO ?aB ?aS ?aL ?_; (case aP => exact rfl); (case aB => exact Xi); (case aF => exact (fun _ _ => trivial)); (case aO => exact (Xq O_3)); (case aS => exact (below_size Xi)); (case aL => have := LMc7.out; omega); intro v295 w9 ho hb hg hat; rw [← Ny21.out] at ho; replace HB := Am (hb); have HO23 := Am (ho); clear O_3; clear ho hb hg hat)); try go_wp2_with (first | ((with_reducible refine gate_builtin (b := .append) (xs := #[.tmp 29, .tmp 35]) rfl ?_); (try (refine gate_guard (by rfl) ?_; dsimp only)); at_builtin; refine Kd.R_append (Kd.int .i64) (w0 := w) w.heap.size rfl (.tmp 29) (.tmp 35) 30 3 (.int .i64 0) 8 rfl Tryz.underlying30 info3 rfl (by decide) (by omega) (.slice Ao8 x3_1.length co8) x3_1 ((rd_T39 l0 x4_1).f0) [.int .i64 ((rd_T39 l0 x4_1).f0)] (fun _ => True) (fun _ => False) rfl rfl ?aP (fun _ hk => hk.elim) ?aF ?aO ?aB ?aS ?aL ?_; (case aP => exact rfl); (case aB => exact Xi); (case aF => exact (fun _ _ => trivial)); (case aO => exact (Xq O_3)); (case aS => exact (below_size Xi)); (case aL => have := LMc7.out; omega); intro v295 w9 ho hb hg hat; rw [← Ny21.out] at ho; replace HB := Am (hb); have HO23 := Am (ho); clear O_3; clear ho hb hg hat)))
   go_roundg k1
   case measure => have := HK1.out; omega
   case rel => exact ⟨(y21), (wrap64 (x4_1 + 1)), Xr, H', Xk1, (Xp' HO23), ⟨Xi⟩⟩
  have c5b0 : ((x3_1.length : Int) == 0) = false := beq_eq_false_iff_ne.mpr c5
  have c5b1 : ((x3_1.length : Int) != 0) = true := bne_iff_ne.mpr c5
  have c5b2 : ¬ (x3_1 = []) := fun h_ => c5 (by rw [h_]; rfl)
  obtain ⟨ji10, hji10⟩ : ∃ j_ : Int, (wrap64 ((x3_1.length : Int) - 1)) = j_ := ⟨_, rfl⟩
  replace H : (if 0 ≤ (ji10) then (if (ji10) < (x3_1.length : Int) then (if 0 ≤ x4_1 then (if (rd x3_1 (ji10)) = ((rd_T39 l0 x4_1).f0) then (spec_l07Sessions.l0 k1 l0 x3_1 (wrap64 (x4_1 + 1))) else (if x3_1.length < 17592186044416 then (spec_l07Sessions.l0 k1 l0 (x3_1 ++ [(rd_T39 l0 x4_1).f0]) (wrap64 (x4_1 + 1))) else (none))) else (none)) else (none)) else (none)) = some r := by first | (rw [hji10] at H; exact H) | (simp only [hji10] at H ⊢; exact H)
  have hji10w : (IntKind.i64.wrap ((x3_1.length : Int) - 1)) = ji10 := (i64_w _).trans hji10
  obtain ⟨c11b0, H⟩ := Xid H
  obtain ⟨c12b0, H⟩ := Xid H
  obtain ⟨c13b0, H⟩ := Xid H
  obtain ⟨c14, H⟩ | ⟨c14, H⟩ := Xiu H
  ·have c14b0 : ((rd x3_1 (ji10)) == ((rd_T39 l0 x4_1).f0)) = true := beq_iff_eq.mpr c14
   have c14b1 : ((rd x3_1 (ji10)) != ((rd_T39 l0 x4_1).f0)) = false := bne_eq_false_iff_eq.mpr c14
   clear c14
   have H' := Am H
   clear H
   obtain ⟨Ao15, co15, eo15⟩ := Kd.R_slice O_3.out
   subst eo15
   have p24 : 0 ≤ ((ji10) : Int) := Xo
   have q24 : (ji10) < (x3_1.length : Int) := Xo
   obtain ⟨ad24, e24, hx24_0⟩ := Kd.at_int (Kd.R_reads' O_3.out).2.2 (ji10) p24 q24
   cases e24
   replace p24 := eq_true p24
   replace q24 := eq_true q24
   obtain ⟨ad25, e25, p25, q25, hx25_0, hx25_1, hx25_2⟩ := at_B39 HR0 x4_1 Xa Xa HB
   cases e25
   go_wp2
   repeat (go_quiet (fail); try go_wp2)
   go_roundg k1
   case measure => have := HK1.out; omega
   case rel => exact ⟨(x3_1), (wrap64 (x4_1 + 1)), Xr, H', Xk1, (Xp' O_3), ⟨Xi⟩⟩
  have c14b0 : ((rd x3_1 (ji10)) == ((rd_T39 l0 x4_1).f0)) = false := beq_eq_false_iff_ne.mpr c14
  have c14b1 : ((rd x3_1 (ji10)) != ((rd_T39 l0 x4_1).f0)) = true := bne_iff_ne.mpr c14
  obtain ⟨c16, H⟩ := Xif H
  have LMc16 := Am c16
  clear c16
  obtain ⟨y26, hy26⟩ : ∃ y_ : List Int, y_ = (x3_1 ++ [(rd_T39 l0 x4_1).f0]) := ⟨_, rfl⟩
  replace H : (spec_l07Sessions.l0 k1 l0 y26 (wrap64 (x4_1 + 1))) = some r := by first | (rw [hy26]; with_reducible exact H) | (have H2_ := (Option.bind_some _ _).symm.trans H; rw [hy26]; with_reducible exact H2_) | (have H2_ := (Option.bind_some _ _).symm.trans H; with_reducible exact H2_) | with_reducible exact H | (rw [hy26]; exact H) | exact H
  have Ny26 := Am hy26
  clear hy26
  have H' := Am H
  clear H
  obtain ⟨Ao17, co17, eo17⟩ := Kd.R_slice O_3.out
  subst eo17
  have p24 : 0 ≤ ((ji10) : Int) := Xo
  have q24 : (ji10) < (x3_1.length : Int) := Xo
  obtain ⟨ad24, e24, hx24_0⟩ := Kd.at_int (Kd.R_reads' O_3.out).2.2 (ji10) p24 q24
  cases e24
  replace p24 := eq_true p24
  replace q24 := eq_true q24
  obtain ⟨ad25, e25, p25, q25, hx25_0, hx25_1, hx25_2⟩ := at_B39 HR0 x4_1 Xa Xa HB
  cases e25
  obtain ⟨ad27, e27, p27, q27, hx27_0, hx27_1, hx27_2⟩ := at_B39 HR0 x4_1 Xa Xa HB
  obtain rfl : ad25 = ad27 := (by injection e27)
  go_wp2_with (first | ((with_reducible refine gate_builtin (b := .append) (xs := #[.tmp 29, .tmp 35]) rfl ?_); (try (refine gate_guard (by rfl) ?_; dsimp only)); at_builtin; refine Kd.R_append (Kd.int .i64) (w0 := w) w.heap.size rfl (.tmp 29) (.tmp 35) 30 3 (.int .i64 0) 8 rfl Tryz.underlying30 info3 rfl (by decide) (by omega) (.slice (some ad24) x3_1.length co17) x3_1 ((rd_T39 l0 x4_1).f0) [.int .i64 ((rd_T39 l0 x4_1).f0)] (fun _ => True) (fun _ => False) rfl rfl ?aP (fun _ hk => hk.elim) ?aF ?aO ?aB ?aS ?aL ?_; (case aP => exact rfl); (case aB => exact Xi); (case aF => exact (fun _ _ => trivial)); (case aO => exact (Xq O_3)); (case aS => exact (below_size Xi)); (case aL => have := LMc16.out; omega); intro v301 w18 ho hb hg hat; rw [← Ny26.out] at ho; replace HB := Am (hb); have HO28 := Am (ho); clear O_3; clear ho hb hg hat))
  repeat (go_quiet (first | ((with_reducible refine gate_builtin (b := .append) (xs := #[.tmp 29, .tmp 35]) rfl ?_); (try (refine gate_guard (by rfl) ?_; dsimp only)); at_builtin; refine Kd.R_append (Kd.int .i64) (w0 := w) w.heap.size rfl (.tmp 29) (.tmp 35) 30 3 (.int .i64 0) 8 rfl Tryz.underlying30 info3 rfl (by decide) (by omega) (.slice (some ad24) x3_1.length co17) x3_1 ((rd_T39 l0 x4_1).f0) [.int .i64 ((rd_T39 l0 x4_1).f0)] (fun _ => True) (fun _ => False) rfl rfl ?aP (fun _ hk => hk.elim) ?aF ?aO ?aB ?aS ?aL ?_; (case aP => exact rfl); (case aB => exact Xi); (case aF => exact (fun _ _ => trivial)); (case aO => exact (Xq O_3)); (case aS => exact (below_size Xi)); (case aL => have := LMc16.out; omega); intro v301 w18 ho hb hg hat; rw [← Ny26.out] at ho; replace HB := Am (hb); have HO28 := Am (ho); clear O_3; clear ho hb hg hat)); try go_wp2_with (first | ((with_reducible refine gate_builtin (b := .append) (xs := #[.tmp 29, .tmp 35]) rfl ?_); (try (refine gate_guard (by rfl) ?_; dsimp only)); at_builtin; refine Kd.R_append (Kd.int .i64) (w0 := w) w.heap.size rfl (.tmp 29) (.tmp 35) 30 3 (.int .i64 0) 8 rfl Tryz.underlying30 info3 rfl (by decide) (by omega) (.slice (some ad24) x3_1.length co17) x3_1 ((rd_T39 l0 x4_1).f0) [.int .i64 ((rd_T39 l0 x4_1).f0)] (fun _ => True) (fun _ => False) rfl rfl ?aP (fun _ hk => hk.elim) ?aF ?aO ?aB ?aS ?aL ?_; (case aP => exact rfl); (case aB => exact Xi); (case aF => exact (fun _ _ => trivial)); (case aO => exact (Xq O_3)); (case aS => exact (below_size Xi)); (case aL => have := LMc16.out; omega); intro v301 w18 ho hb hg hat; rw [← Ny26.out] at ho; replace HB := Am (hb); have HO28 := Am (ho); clear O_3; clear ho hb hg hat)))
  go_roundg k1
  case measure => have := HK1.out; omega
  case rel => exact ⟨(y26), (wrap64 (x4_1 + 1)), Xr, H', Xk1, (Xp' HO28), ⟨Xi⟩⟩
 obtain rfl := Xsi H
 go_wp2
 repeat (go_quiet (fail); try go_wp2)
 go_ret
 exact ⟨_, Xe, Xq O_3, Xi⟩
def spec_l07Join.f : Nat → Int → Int → Option (Int)
 | 0, _, _ => none
 | k + 1, a0, a1 => if a0 > a1 then ((spec_l07Join.f k a1 a0).bind fun t10 => (some t10)) else (if a0 = 2 then (if a1 = 3 then (some 4) else (some a1)) else (some a1))
theorem spec_l07Join.calls (k : Nat) : ∀ (a0 : Int) (a1 : Int) (r : Int) (w : World) (h : spec_l07Join.f k a0 a1 = some r),
  Calls Tryz.prog 133 #[.int .i64 a0, .int .i64 a1] w fun e w' => e = .returned (.int .i64 r) ∧ Below w.heap.size w w' := by
 induction k using Nat.strongRecOn with
 | _ k ih =>
 intro a0 a1 r w h
 cases k with
 | zero => exact absurd h (by simp [spec_l07Join.f])
 | succ k =>
 simp only [spec_l07Join.f] at h
 have HB := Am (Below.refl w.heap.size w)
 have H : (if a0 > a1 then ((spec_l07Join.f k a1 a0).bind fun t10 => (some t10)) else (if a0 = 2 then (if a1 = 3 then (some 4) else (some a1)) else (some a1))) = some r := h
 clear h
 obtain ⟨c3, H⟩ | ⟨c3, H⟩ := Xiu H
 ·have c3b0 : decide (a1 < a0) = true := decide_eq_true c3
  clear c3
  obtain ⟨t10, A4, H⟩ := Xbi H
  try dsimp only at H
  obtain rfl := Xsi H
  go_enter Tryz.func133, Tryz.ntmps133
  go_wp2_with (first | ((with_reducible refine gate_callee (f := 133) rfl ?_); refine Xgo 10 Tryz.func133 #[.int .i64 a1, .int .i64 a0] ?_; (with_reducible refine (ih k (by omega) a1 a0 t10 _ A4.out).mono ?_); rintro e w5 ⟨rfl, hb⟩; refine ⟨_, rfl, ?_⟩; replace HB := Xhb hb; clear hb))
  go_ret
  exact ⟨Xe, Xi⟩
 have c3b0 : decide (a1 < a0) = false := decide_eq_false c3
 clear c3
 obtain ⟨c6, H⟩ | ⟨c6, H⟩ := Xiu H
 ·have c6b0 : (a0 == 2) = true := beq_iff_eq.mpr c6
  have c6b1 : (a0 != 2) = false := bne_eq_false_iff_eq.mpr c6
  clear c6
  obtain ⟨c7, H⟩ | ⟨c7, H⟩ := Xiu H
  ·have c7b0 : (a1 == 3) = true := beq_iff_eq.mpr c7
   have c7b1 : (a1 != 3) = false := bne_eq_false_iff_eq.mpr c7
   clear c7
   obtain rfl := Xsi H
   go_enter Tryz.func133, Tryz.ntmps133
   go_wp2
   go_ret
   exact ⟨Xe, Xi⟩
  have c7b0 : (a1 == 3) = false := beq_eq_false_iff_ne.mpr c7
  have c7b1 : (a1 != 3) = true := bne_iff_ne.mpr c7
  obtain rfl := Xsi H
  go_enter Tryz.func133, Tryz.ntmps133
  go_wp2
  go_ret
  exact ⟨Xe, Xi⟩
 have c6b0 : (a0 == 2) = false := beq_eq_false_iff_ne.mpr c6
 have c6b1 : (a0 != 2) = true := bne_iff_ne.mpr c6
 obtain rfl := Xsi H
 go_enter Tryz.func133, Tryz.ntmps133
 go_wp2
 go_ret
 exact ⟨Xe, Xi⟩
def spec_l02Path.l0 : Nat → List Int → Int → Int → Int → List (S113) → Option (List Int)
 | 0, _, _, _, _, _ => none
 | k + 1, x5, x6, x305000, x305001, x305002 => if x6 > 0 then ((some (([x6] : List Int) : List Int)).bind fun y10 => (if y10.length + x5.length < 17592186044416 then ((spec_l02Parent.f k x305000 x305001 x305002 x6).bind fun t11 => (spec_l02Path.l0 k (y10 ++ x5) t11 x305000 x305001 x305002)) else (none))) else (some x5)
def spec_l02Path.f (k : Nat) (a0_0 : Int) (a0_1 : Int) (l0_2 : List (S113)) (a1 : Int) : Option (List Int) := spec_l02Path.l0 k (([] : List Int)) a1 a0_0 a0_1 l0_2
theorem spec_l02Path.calls (k : Nat) (a0_0 : Int) (a0_1 : Int) (A0_2 : Option Addr) (c0_2 : Nat) (l0_2 : List (S113)) (a1 : Int) (r : List Int) (w : World) (hr0_2 : Kd.C k113 w A0_2 l0_2.length l0_2) (hc0_2 : l0_2.length ≤ c0_2) (h : spec_l02Path.f k a0_0 a0_1 l0_2 a1 = some r) :
  Calls Tryz.prog 134 #[.agg #[.int .i64 a0_0, .int .i64 a0_1, .slice A0_2 l0_2.length c0_2], .int .i64 a1] w fun e w' => ∃ v0_ : Value, e = .returned (v0_) ∧ Kd.R (Kd.int .i64) 3 w' w.heap.size (fun _ => True) v0_ r ∧ Below w.heap.size w w' := by
 have hu35 := Tryz.underlying35
 have HR0_2 := Am hr0_2
 have HC0_2 := Am hc0_2
 clear hr0_2 hc0_2
 have HB := Am (Below.refl w.heap.size w)
 have H : (spec_l02Path.l0 k (([] : List Int)) a1 a0_0 a0_1 l0_2) = some r := h
 clear h
 obtain ⟨y15, hy15⟩ : ∃ y_ : List Int, y_ = (([] : List Int)) := ⟨_, rfl⟩
 replace H : (spec_l02Path.l0 k y15 a1 a0_0 a0_1 l0_2) = some r := by first | (rw [hy15]; with_reducible exact H) | (have H2_ := (Option.bind_some _ _).symm.trans H; rw [hy15]; with_reducible exact H2_) | (have H2_ := (Option.bind_some _ _).symm.trans H; with_reducible exact H2_) | with_reducible exact H | (rw [hy15]; exact H) | exact H
 have Ny15 := Am hy15
 clear hy15
 have H' := Am H
 clear H
 go_enter Tryz.func134, Tryz.ntmps134
 go_wp2_with (first | ((with_reducible refine gate_dst (N := 2) rfl ?_); refine Xbx 2 #[.int .i64 a0_0, .int .i64 a0_1, .slice A0_2 l0_2.length c0_2] 35 ?_; intro gb16 hg w3 B16 GE16 hb; replace HB := Xhb hb; clear hb hg) | ((with_reducible refine gate_dst (N := 7) rfl ?_); refine Kd.R_lit (Kd.int .i64) _ 3 ?hg (N := 7) ?hd (xs := ([] : List Int)) (inner := []) (ok := fun _ => True) (okp := fun _ => True) ?hr ?hp (fun _ hk => hk) trivial (Below.refl _ _) (Nat.le_refl _) (by simp) ?_; (case hd => rfl); (case hg => rfl); (case hr => first | (go_simp; done) | (go_simp; rfl)); (case hp => exact (Reps.none _ _)); intro v306 w4 ho5 hb hg_ hnew_; clear hg_ hnew_; (first | rw [← Ny15.out] at ho5 | (simp only [Int.reduceToNat] at ho5; rw [← Ny15.out] at ho5)); have HO17 := Am (Kd.R_lower ho5 (below_size Xi)); replace B16 := Xbb B16 hb; replace HB := Xhb hb; clear hb ho5))
 go_loopg [5, 6] k (fun kq v5 v6 w' => ∃ (x5_1 : List Int) (x6_1 : Int), v6 = .int .i64 x6_1 ∧ Aside0 (spec_l02Path.l0 kq x5_1 x6_1 a0_0 a0_1 l0_2 = some r) ∧ Aside0 (kq ≤ k) ∧ Aside0 (Kd.R (Kd.int .i64) 3 w' w.heap.size (fun _ => True) v5 x5_1) ∧ Aside0 (w'.heap[gb16]? = some (.cells #[.int .i64 a0_0, .int .i64 a0_1, (.slice A0_2 l0_2.length c0_2)] 35 (0, 0))) ∧ Aside0 (Below w.heap.size w w'))
 case atStart => exact ⟨(y15), (a1), Xr, H', Xkr, (Xp' HO17), (Xp B16), ⟨Xi⟩⟩
 clear H'
 obtain ⟨x5_1, x6_1, rfl, HA, HK1, O_5, B16, HB⟩ := hrel
 cases gk with | zero => cases HA.out | succ k1 => ?_
 have H := HA.out
 clear HA
 simp only [spec_l02Path.l0] at H
 obtain ⟨c6, H⟩ | ⟨c6, H⟩ := Xiu H
 ·have c6b0 : decide (0 < x6_1) = true := decide_eq_true c6
  clear c6
  obtain ⟨y18, hy18⟩ : ∃ y_ : List Int, y_ = (([x6_1] : List Int)) := ⟨_, rfl⟩
  replace H : (if y18.length + x5_1.length < 17592186044416 then ((spec_l02Parent.f k1 a0_0 a0_1 l0_2 x6_1).bind fun t19 => (spec_l02Path.l0 k1 (y18 ++ x5_1) t19 a0_0 a0_1 l0_2)) else (none)) = some r := by first | (rw [hy18]; with_reducible exact H) | (have H2_ := (Option.bind_some _ _).symm.trans H; rw [hy18]; with_reducible exact H2_) | (have H2_ := (Option.bind_some _ _).symm.trans H; with_reducible exact H2_) | with_reducible exact H | (rw [hy18]; exact H) | exact H
  have Ny18 := Am hy18
  clear hy18
  obtain ⟨c7, H⟩ := Xif H
  have LMc7 := Am c7
  clear c7
  obtain ⟨y20, hy20⟩ : ∃ y_ : List Int, y_ = (y18 ++ x5_1) := ⟨_, rfl⟩
  replace H : ((spec_l02Parent.f k1 a0_0 a0_1 l0_2 x6_1).bind fun t19 => (spec_l02Path.l0 k1 y20 t19 a0_0 a0_1 l0_2)) = some r := by first | (rw [hy20]; with_reducible exact H) | (have H2_ := (Option.bind_some _ _).symm.trans H; rw [hy20]; with_reducible exact H2_) | (have H2_ := (Option.bind_some _ _).symm.trans H; with_reducible exact H2_) | with_reducible exact H | (rw [hy20]; exact H) | exact H
  have Ny20 := Am hy20
  clear hy20
  obtain ⟨t19, A8, H⟩ := Xbi H
  try dsimp only at H
  have H' := Am H
  clear H
  go_wp2_with (first | ((with_reducible refine gate_dst (N := 15) rfl ?_); refine Kd.R_lit (Kd.int .i64) _ 3 ?hg (N := 15) ?hd (xs := ([x6_1] : List Int)) (inner := [.int .i64 x6_1]) (ok := fun _ => True) (okp := fun _ => True) ?hr ?hp (fun _ hk => hk) trivial (Below.refl _ _) (Nat.le_refl _) (by simp) ?_; (case hd => rfl); (case hg => rfl); (case hr => first | (go_simp; done) | (go_simp; rfl)); (case hp => exact (Reps.one (show Kd.M (Kd.int .i64) _ _ _ x6_1 [.int .i64 x6_1] from rfl) (Reps.none _ _))); intro v309 w9 ho10 hb hg_ hnew_; clear hg_ hnew_; (first | rw [← Ny18.out] at ho10 | (simp only [Int.reduceToNat] at ho10; rw [← Ny18.out] at ho10)); have HO21 := Am (Kd.R_lower (Kd.R_new' ho10 (Kd.R_lt (Xq O_5))) (below_size Xi)); replace O_5 := Am (Kd.R_elder' (Xq O_5) (Kd.R_base ho10) hb); replace B16 := Xbb B16 hb; replace HB := Xhb hb; clear hb ho10; obtain ⟨Ao12, co12, eo12⟩ := Kd.R_slice O_5.out; subst eo12) | ((with_reducible refine gate_builtin (b := .append) (xs := #[.tmp 15, .tmp 16]) rfl ?_); at_builtin; refine Kd.R_append_rows (Kd.int .i64) (w0 := w) w.heap.size rfl (.tmp 15) (.tmp 16) 30 3 (.int .i64 0) 8 rfl Tryz.underlying30 info3 rfl (by decide) (by omega) v309 y18 x5_1 _ _ _ (fun k_ => some k_ ≠ (.slice Ao12 x5_1.length co12 : Value).ownBlock) (fun _ => False) rfl rfl ?aO ?aR (fun _ _ h => h) (fun _ h => h.elim) ?aF ?aB ?aS ?aL ?_; (case aR => exact Xcd (Kd.R_reads' O_5.out).2.2); (case aB => exact Xi); (case aF => exact (fun k_ hk => Kd.fresh' (Kd.R_lt (Xq O_5)) k_ hk)); (case aO => exact (by (with_reducible repeat (first | apply Kd.R_alloc | apply Kd.R_drewN | apply Kd.R_drew)); exact Kd.R_mono HO21.out (fun _ hk => hk.2))); (case aS => exact (below_size Xi)); (case aL => have := LMc7.out; omega); intro v312 w11 ho hb hg hat; rw [← Ny20.out] at ho; replace O_5 := Am (Kd.R_after (ok := (fun _ => True)) (Xq O_5) hg hat); replace B16 := Am (blk_grown (g := gb16) (o := .cells #[.int .i64 a0_0, .int .i64 a0_1, .slice A0_2 l0_2.length c0_2] 35 (0, 0)) (Xq' B16) hg (Kd.R_ne HO21.out B16.out (by decide))); replace HB := Am (hb); have HO22 := Am (ho); clear HO21; clear ho hb hg hat; obtain ⟨Z13_0, Z13_1, Z13_2⟩ := Xc3 B16) | ((with_reducible refine gate_callee (f := 166) rfl ?_); refine Xgo 13 Tryz.func166 #[.agg #[.int .i64 a0_0, .int .i64 a0_1, .slice A0_2 l0_2.length c0_2], .int .i64 x6_1] ?_; (with_reducible refine (spec_l02Parent.calls k1 a0_0 a0_1 _ _ l0_2 x6_1 t19 _ ?s1 ?s2 A8.out).mono ?_); (case s1 => exact Xc HR0_2); (case s2 => exact HC0_2.out); rintro e w14 ⟨rfl, hb⟩; refine ⟨_, rfl, ?_⟩; replace O_5 := Am (Kd.R_below (Xq O_5) hb); replace HO22 := Am (Kd.R_below (Xq HO22) hb); replace B16 := Xbb B16 hb; replace HB := Xhb hb; clear hb))
  go_roundg k1
  case measure => have := HK1.out; omega
  case rel => exact ⟨(y20), (t19), Xr, H', Xk1, ⟨by (with_reducible repeat (first | apply Kd.R_alloc | apply Kd.R_drewN | apply Kd.R_drew)); exact Kd.R_mono HO22.out (fun _ hk => trivial)⟩, (Xp B16), ⟨Xi⟩⟩
 have c6b0 : decide (0 < x6_1) = false := decide_eq_false c6
 clear c6
 obtain rfl := Xsi H
 go_wp2
 go_ret
 exact ⟨_, Xe, Xq O_5, Xi⟩
def spec_l07Intent.f (a0 : Int) : Option (Int) := if a0 = 0 then (some 0) else (if a0 = 1 then (some 1) else (if a0 = 3 then (some 1) else (some 2)))
theorem spec_l07Intent.calls (a0 : Int) (r : Int) (w : World) (h : spec_l07Intent.f a0 = some r) :
  Calls Tryz.prog 135 #[.int .i64 a0] w fun e w' => e = .returned (.int .i64 r) ∧ Drawn0 w w' := by
 have H : (if a0 = 0 then (some 0) else (if a0 = 1 then (some 1) else (if a0 = 3 then (some 1) else (some 2)))) = some r := h
 clear h
 obtain ⟨c2, H⟩ | ⟨c2, H⟩ := Xiu H
 ·have c2b0 : (a0 == 0) = true := beq_iff_eq.mpr c2
  have c2b1 : (a0 != 0) = false := bne_eq_false_iff_eq.mpr c2
  clear c2
  obtain rfl := Xsi H
  go_enter Tryz.func135, Tryz.ntmps135
  go_wp2
  go_ret
  exact ⟨Xr, Xdr⟩
 have c2b0 : (a0 == 0) = false := beq_eq_false_iff_ne.mpr c2
 have c2b1 : (a0 != 0) = true := bne_iff_ne.mpr c2
 obtain ⟨c3, H⟩ | ⟨c3, H⟩ := Xiu H
 ·have c3b0 : (a0 == 1) = true := beq_iff_eq.mpr c3
  have c3b1 : (a0 != 1) = false := bne_eq_false_iff_eq.mpr c3
  clear c3
  obtain rfl := Xsi H
  go_enter Tryz.func135, Tryz.ntmps135
  go_wp2
  go_ret
  exact ⟨Xr, Xdr⟩
 have c3b0 : (a0 == 1) = false := beq_eq_false_iff_ne.mpr c3
 have c3b1 : (a0 != 1) = true := bne_iff_ne.mpr c3
 obtain ⟨c4, H⟩ | ⟨c4, H⟩ := Xiu H
 ·have c4b0 : (a0 == 3) = true := beq_iff_eq.mpr c4
  have c4b1 : (a0 != 3) = false := bne_eq_false_iff_eq.mpr c4
  clear c4
  obtain rfl := Xsi H
  go_enter Tryz.func135, Tryz.ntmps135
  go_wp2
  go_ret
  exact ⟨Xr, Xdr⟩
 have c4b0 : (a0 == 3) = false := beq_eq_false_iff_ne.mpr c4
 have c4b1 : (a0 != 3) = true := bne_iff_ne.mpr c4
 obtain rfl := Xsi H
 go_enter Tryz.func135, Tryz.ntmps135
 go_wp2
 go_ret
 exact ⟨Xr, Xdr⟩
def spec_l07At.l0 : Nat → List (S39) → Int → Int → Int → Int → Int → Int → List (S113) → Option (Int)
 | 0, _, _, _, _, _, _, _, _ => none
 | k + 1, x1, x2, x3, x9, x10, x316000, x316001, x316002 => if x10 < (x1.length : Int) then (if 0 ≤ x10 then (if ((rd_T39 x1 x10).f0) = x2 then (if ((rd_T39 x1 x10).f1) = x3 then ((spec_l07Join.f k x9 ((rd_T39 x1 x10).f2)).bind fun t11 => (spec_l07At.l0 k x1 x2 x3 t11 (wrap64 (x10 + 1)) x316000 x316001 x316002)) else ((spec_l02Path.f k x316000 x316001 x316002 ((rd_T39 x1 x10).f1)).bind fun t12 => ((spec_l02Has.f k t12 x3).bind fun t13 => (if t13 = true then ((spec_l07Intent.f ((rd_T39 x1 x10).f2)).bind fun t14 => ((spec_l07Join.f k x9 t14).bind fun t15 => (spec_l07At.l0 k x1 x2 x3 t15 (wrap64 (x10 + 1)) x316000 x316001 x316002))) else (spec_l07At.l0 k x1 x2 x3 x9 (wrap64 (x10 + 1)) x316000 x316001 x316002))))) else (spec_l07At.l0 k x1 x2 x3 x9 (wrap64 (x10 + 1)) x316000 x316001 x316002)) else (none)) else (some x9)
def spec_l07At.f (k : Nat) (a0_0 : Int) (a0_1 : Int) (l0_2 : List (S113)) (l1 : List (S39)) (a2 : Int) (a3 : Int) : Option (Int) := spec_l07At.l0 k l1 a2 a3 0 0 a0_0 a0_1 l0_2
theorem spec_l07At.calls (k : Nat) (a0_0 : Int) (a0_1 : Int) (A0_2 : Option Addr) (c0_2 : Nat) (l0_2 : List (S113)) (A1 : Option Addr) (c1 : Nat) (l1 : List (S39)) (a2 : Int) (a3 : Int) (r : Int) (w : World) (hr0_2 : Kd.C k113 w A0_2 l0_2.length l0_2) (hc0_2 : l0_2.length ≤ c0_2) (hr1 : Kd.C k39 w A1 l1.length l1) (hc1 : l1.length ≤ c1) (h : spec_l07At.f k a0_0 a0_1 l0_2 l1 a2 a3 = some r) :
  Calls Tryz.prog 77 #[.agg #[.int .i64 a0_0, .int .i64 a0_1, .slice A0_2 l0_2.length c0_2], .slice A1 l1.length c1, .int .i64 a2, .int .i64 a3] w fun e w' => e = .returned (.int .i64 r) ∧ Below w.heap.size w w' := by
 have hu35 := Tryz.underlying35
 have hu39 := Tryz.underlying39
 have HR0_2 := Am hr0_2
 have HC0_2 := Am hc0_2
 clear hr0_2 hc0_2
 have HR1 := Am hr1
 have HC1 := Am hc1
 clear hr1 hc1
 have HB := Am (Below.refl w.heap.size w)
 have H : (spec_l07At.l0 k l1 a2 a3 0 0 a0_0 a0_1 l0_2) = some r := h
 clear h
 have H' := Am H
 clear H
 go_enter Tryz.func77, Tryz.ntmps77
 go_wp2_with (first | ((with_reducible refine gate_dst (N := 4) rfl ?_); refine Xbx 4 #[.int .i64 a0_0, .int .i64 a0_1, .slice A0_2 l0_2.length c0_2] 35 ?_; intro gb34 hg w5 B34 GE34 hb; replace HB := Xhb hb; clear hb hg))
 go_loopg [9, 10] k (fun kq v9 v10 w' => ∃ (x9_1 : Int) (x10_1 : Int), v9 = .int .i64 x9_1 ∧ v10 = .int .i64 x10_1 ∧ Aside0 (spec_l07At.l0 kq l1 a2 a3 x9_1 x10_1 a0_0 a0_1 l0_2 = some r) ∧ Aside0 (kq ≤ k) ∧ Aside0 (w'.heap[gb34]? = some (.cells #[.int .i64 a0_0, .int .i64 a0_1, (.slice A0_2 l0_2.length c0_2)] 35 (0, 0))) ∧ Aside0 (Below w.heap.size w w'))
 case atStart => exact ⟨(0), (0), Xr, Xr, H', Xkr, B34, ⟨Xi⟩⟩
 clear H'
 try clear c1
 obtain ⟨x9_1, x10_1, rfl, rfl, HA, HK1, B34, HB⟩ := hrel
 cases gk with | zero => cases HA.out | succ k1 => ?_
 have H := HA.out
 clear HA
 simp only [spec_l07At.l0] at H
 obtain ⟨c6b0, H⟩ | ⟨c6b0, H⟩ := Xit H
 ·obtain ⟨c7b0, H⟩ := Xid H
  have HC8 := Am H
  clear H
  obtain ⟨ad36, e36, p36, q36, hx36_0, hx36_1, hx36_2⟩ := at_B39 HR1 x10_1 Xa Xa HB
  cases e36
  go_upto_if 25 with (first | ((with_reducible refine gate_dst (N := 11) rfl ?_); refine Xbx 11 #[.int .i64 0, .int .i64 0, .int .i64 0] 39 ?_; intro gb37 hg w9 B37 GE37 hb; replace HB := Xhb hb; have NB34_37 := Xnb hg B34; have NB37_34 := Xns NB34_37; replace B34 := Xbb B34 hb; clear hb hg; have hnb10 := NB37_34.out; have hnc10 := NB34_37.out; obtain ⟨Z11_0, Z11_1, Z11_2⟩ := Xc3 B37; obtain ⟨F11_0, F11_1, F11_2⟩ := Xf3 B37) | ((with_reducible refine gate_store (t := 39) (p := 11) rfl ?_); refine store_event (t := 39) (p := 11) (v := ?vo_w12) (w1 := (((w9.setCell ⟨gb37, 0, none⟩ (.int .i64 ((rd_T39 l1 x10_1).f0))).setCell ⟨gb37, 1, none⟩ (.int .i64 ((rd_T39 l1 x10_1).f1))).setCell ⟨gb37, 2, none⟩ (.int .i64 ((rd_T39 l1 x10_1).f2)))) ?hg ?ho ?hn ?hr ?_; (case ho => rfl); (case hg => rfl); (case hn => rfl); (case hr => first | (go_simp; done) | (go_simp; rfl)); intro w12 hw; have n0_ : Aside0 (w12.heap[gb34]? = some (.cells #[.int .i64 a0_0, .int .i64 a0_1, .slice A0_2 l0_2.length c0_2] 35 (0, 0))) := ⟨(by rw [hw]; exact (by refine Xu ?_; refine blk_far ?_ NB34_37.out _; refine Xu ?_; refine blk_far ?_ NB34_37.out _; refine Xu ?_; refine blk_far ?_ NB34_37.out _; refine Xu ?_; exact B34.out))⟩; have n1_ : Aside0 (w12.heap[gb37]? = some (.cells #[.int .i64 ((rd_T39 l1 x10_1).f0), .int .i64 ((rd_T39 l1 x10_1).f1), .int .i64 ((rd_T39 l1 x10_1).f2)] 39 (0, 0))) := ⟨(by rw [hw]; exact (by refine Xu ?_; refine blk_put (cs := #[.int .i64 ((rd_T39 l1 x10_1).f0), .int .i64 ((rd_T39 l1 x10_1).f1), .int .i64 0]) ?_ 2 _ rfl; refine Xu ?_; refine blk_put (cs := #[.int .i64 ((rd_T39 l1 x10_1).f0), .int .i64 0, .int .i64 0]) ?_ 1 _ rfl; refine Xu ?_; refine blk_put (cs := #[.int .i64 0, .int .i64 0, .int .i64 0]) ?_ 0 _ rfl; refine Xu ?_; exact B37.out))⟩; have n2_ : Aside0 (Below w.heap.size w w12) := ⟨(by rw [hw]; exact Xi)⟩; clear hw; clear B34; clear B37; clear HB; have B34 := n0_; have B37 := n1_; have HB := n2_; clear n0_ n1_ n2_; obtain ⟨Z13_0, Z13_1, Z13_2⟩ := Xc3 B37; obtain ⟨F13_0, F13_1, F13_2⟩ := Xf3 B37))
  have H := HC8.out
  clear HC8
  obtain ⟨c14, H⟩ | ⟨c14, H⟩ := Xiu H
  ·have c14b0 : (((rd_T39 l1 x10_1).f0) == a2) = true := beq_iff_eq.mpr c14
   have c14b1 : (((rd_T39 l1 x10_1).f0) != a2) = false := bne_eq_false_iff_eq.mpr c14
   clear c14
   (first | rw [c14b0] | (simp only [i64_w, i32_w]; rw [c14b0]) | skip)
   obtain ⟨c15, H⟩ | ⟨c15, H⟩ := Xiu H
   ·have c15b0 : (((rd_T39 l1 x10_1).f1) == a3) = true := beq_iff_eq.mpr c15
    have c15b1 : (((rd_T39 l1 x10_1).f1) != a3) = false := bne_eq_false_iff_eq.mpr c15
    clear c15
    obtain ⟨t38, A16, H⟩ := Xbi H
    try dsimp only at H
    have H' := Am H
    clear H
    have hnb17 := NB37_34.out
    have hnc17 := NB34_37.out
    obtain ⟨Z18_0, Z18_1, Z18_2⟩ := Xc3 B37
    obtain ⟨F18_0, F18_1, F18_2⟩ := Xf3 B37
    go_wp2_with (first | ((with_reducible refine gate_callee (f := 133) rfl ?_); refine Xgo 33 Tryz.func133 #[.int .i64 x9_1, .int .i64 ((rd_T39 l1 x10_1).f2)] ?_; (with_reducible refine (spec_l07Join.calls k1 x9_1 ((rd_T39 l1 x10_1).f2) t38 _ A16.out).mono ?_); rintro e w19 ⟨rfl, hb⟩; refine ⟨_, rfl, ?_⟩; replace B34 := Xbb B34 hb; replace B37 := Xbb B37 hb; replace HB := Xhb hb; clear hb))
    go_roundg k1
    case measure => have := HK1.out; omega
    case rel => exact ⟨(t38), (wrap64 (x10_1 + 1)), Xr, Xr, H', Xk1, B34, ⟨Xi⟩⟩
   have c15b0 : (((rd_T39 l1 x10_1).f1) == a3) = false := beq_eq_false_iff_ne.mpr c15
   have c15b1 : (((rd_T39 l1 x10_1).f1) != a3) = true := bne_iff_ne.mpr c15
   obtain ⟨t40, A20, H⟩ := Xbi H
   try dsimp only at H
   obtain ⟨t41, A21, H⟩ := Xbi H
   try dsimp only at H
   have HC22 := Am H
   clear H
   have hnb23 := NB37_34.out
   have hnc23 := NB34_37.out
   obtain ⟨Z24_0, Z24_1, Z24_2⟩ := Xc3 B37
   obtain ⟨F24_0, F24_1, F24_2⟩ := Xf3 B37
   obtain ⟨Z25_0, Z25_1, Z25_2⟩ := Xc3 B34
   obtain ⟨F25_0, F25_1, F25_2⟩ := Xf3 B34
   go_upto_if 39 with (first | ((with_reducible refine gate_callee (f := 134) rfl ?_); refine Xgo 37 Tryz.func134 #[.agg #[.int .i64 a0_0, .int .i64 a0_1, .slice A0_2 l0_2.length c0_2], .int .i64 ((rd_T39 l1 x10_1).f1)] ?_; (with_reducible refine (spec_l02Path.calls k1 a0_0 a0_1 _ _ l0_2 ((rd_T39 l1 x10_1).f1) t40 _ ?s1 ?s2 A20.out).mono ?_); (case s1 => exact Xc HR0_2); (case s2 => exact HC0_2.out); rintro e w26 ⟨v320, rfl, ho0, hb⟩; refine ⟨_, rfl, ?_⟩; have HO42 := Am (Kd.R_lower ho0 (below_size Xi)); replace B34 := Xbb B34 hb; replace B37 := Xbb B37 hb; replace HB := Xhb hb; clear hb; (try clear ho0); obtain ⟨Ao27, co27, eo27⟩ := Kd.R_slice HO42.out; subst eo27) | ((with_reducible refine gate_callee (f := 104) rfl ?_); refine Xgo 39 Tryz.func104 #[.slice Ao27 t40.length co27, .int .i64 a3] ?_; (with_reducible refine (spec_l02Has.calls k1 _ _ t40 a3 t41 _ ?s1 ?s2 A21.out).mono ?_); (case s1 => exact Xcd (Kd.R_reads' HO42.out).2.2); (case s2 => exact (Kd.R_reads' HO42.out).2.1); rintro e w' ⟨rfl, ⟨nd, rfl⟩⟩; refine ⟨_, rfl, ?_⟩))
   have H := HC22.out
   clear HC22
   by_cases c28 : t41 = true
   ·subst c28
    try rw [if_pos rfl] at H
    obtain ⟨t43, A29, H⟩ := Xbi H
    try dsimp only at H
    obtain ⟨t44, A30, H⟩ := Xbi H
    try dsimp only at H
    have H' := Am H
    clear H
    have hnb31 := NB37_34.out
    have hnc31 := NB34_37.out
    obtain ⟨Z32_0, Z32_1, Z32_2⟩ := Xc3 B37
    obtain ⟨F32_0, F32_1, F32_2⟩ := Xf3 B37
    go_wp2_with (first | ((with_reducible refine gate_callee (f := 135) rfl ?_); refine Xgo 43 Tryz.func135 #[.int .i64 ((rd_T39 l1 x10_1).f2)] ?_; (with_reducible refine (spec_l07Intent.calls ((rd_T39 l1 x10_1).f2) t43 _ A29.out).mono ?_); rintro e w' ⟨rfl, ⟨nd, rfl⟩⟩; refine ⟨_, rfl, ?_⟩) | ((with_reducible refine gate_callee (f := 133) rfl ?_); refine Xgo 44 Tryz.func133 #[.int .i64 x9_1, .int .i64 t43] ?_; (with_reducible refine (spec_l07Join.calls k1 x9_1 t43 t44 _ A30.out).mono ?_); rintro e w33 ⟨rfl, hb⟩; refine ⟨_, rfl, ?_⟩; replace HO42 := Am (Kd.R_below (Xq HO42) hb); replace B34 := Xbb B34 hb; replace B37 := Xbb B37 hb; replace HB := Xhb hb; clear hb))
    go_roundg k1
    case measure => have := HK1.out; omega
    case rel => exact ⟨(t44), (wrap64 (x10_1 + 1)), Xr, Xr, H', Xk1, B34, ⟨Xi⟩⟩
   replace c28 := Xbf c28
   subst c28
   try rw [if_neg Xft] at H
   have H' := Am H
   clear H
   go_wp2
   go_roundg k1
   case measure => have := HK1.out; omega
   case rel => exact ⟨(x9_1), (wrap64 (x10_1 + 1)), Xr, Xr, H', Xk1, B34, ⟨Xi⟩⟩
  have c14b0 : (((rd_T39 l1 x10_1).f0) == a2) = false := beq_eq_false_iff_ne.mpr c14
  have c14b1 : (((rd_T39 l1 x10_1).f0) != a2) = true := bne_iff_ne.mpr c14
  (first | rw [c14b0] | (simp only [i64_w, i32_w]; rw [c14b0]) | skip)
  have H' := Am H
  clear H
  go_wp2
  go_roundg k1
  case measure => have := HK1.out; omega
  case rel => exact ⟨(x9_1), (wrap64 (x10_1 + 1)), Xr, Xr, H', Xk1, B34, ⟨Xi⟩⟩
 obtain rfl := Xsi H
 go_wp2
 go_ret
 exact ⟨Xe, Xi⟩
def spec_l07Need.f (a0_0 : Int) (a0_1 : Int) (a0_2 : Int) (a1 : Int) : Option (Int) := if a1 = a0_1 then (some a0_2) else ((spec_l07Intent.f a0_2).bind fun t10 => (some t10))
theorem spec_l07Need.calls (a0_0 : Int) (a0_1 : Int) (a0_2 : Int) (a1 : Int) (r : Int) (w : World) (h : spec_l07Need.f a0_0 a0_1 a0_2 a1 = some r) :
  Calls Tryz.prog 145 #[.agg #[.int .i64 a0_0, .int .i64 a0_1, .int .i64 a0_2], .int .i64 a1] w fun e w' => e = .returned (.int .i64 r) ∧ Below w.heap.size w w' := by
 have hu39 := Tryz.underlying39
 have HB := Am (Below.refl w.heap.size w)
 have H : (if a1 = a0_1 then (some a0_2) else ((spec_l07Intent.f a0_2).bind fun t10 => (some t10))) = some r := h
 clear h
 have HC3 := Am H
 clear H
 go_enter Tryz.func145, Tryz.ntmps145
 go_upto_if 8 with ((with_reducible refine gate_dst (N := 2) rfl ?_); refine Xbx 2 #[.int .i64 a0_0, .int .i64 a0_1, .int .i64 a0_2] 39 ?_; intro gb11 hg w4 B11 GE11 hb; replace HB := Xhb hb; clear hb hg; obtain ⟨Z5_0, Z5_1, Z5_2⟩ := Xc3 B11)
 have H := HC3.out
 clear HC3
 obtain ⟨c6, H⟩ | ⟨c6, H⟩ := Xiu H
 ·have c6b0 : (a1 == a0_1) = true := beq_iff_eq.mpr c6
  have c6b1 : (a1 != a0_1) = false := bne_eq_false_iff_eq.mpr c6
  clear c6
  (first | rw [c6b0] | (simp only [i64_w, i32_w]; rw [c6b0]) | skip)
  obtain rfl := Xsi H
  obtain ⟨Z7_0, Z7_1, Z7_2⟩ := Xc3 B11
  go_wp2
  go_ret
  exact ⟨Xe, Xi⟩
 have c6b0 : (a1 == a0_1) = false := beq_eq_false_iff_ne.mpr c6
 have c6b1 : (a1 != a0_1) = true := bne_iff_ne.mpr c6
 (first | rw [c6b0] | (simp only [i64_w, i32_w]; rw [c6b0]) | skip)
 obtain ⟨t10, A8, H⟩ := Xbi H
 try dsimp only at H
 obtain rfl := Xsi H
 obtain ⟨Z9_0, Z9_1, Z9_2⟩ := Xc3 B11
 go_wp2_with (first | ((with_reducible refine gate_callee (f := 135) rfl ?_); refine Xgo 13 Tryz.func135 #[.int .i64 a0_2] ?_; (with_reducible refine (spec_l07Intent.calls a0_2 t10 _ A8.out).mono ?_); rintro e w' ⟨rfl, ⟨nd, rfl⟩⟩; refine ⟨_, rfl, ?_⟩))
 go_ret
 exact ⟨Xe, Xi⟩
mutual
def spec_l07Fits.j0 : Nat → Int → Int → Bool → Option (Bool)
 | 0, _, _, _ => none
 | k + 1, x0, x1, x10 => if x10 = true then (some true) else (if x0 > x1 then ((spec_l07Fits.f k x1 x0).bind fun t11 => (some t11)) else (if x0 = 1 then (some (x1 != 5)) else (if x0 = 2 then (some (x1 == 2)) else (if x0 = 3 then (some (x1 == 3)) else (some false)))))
def spec_l07Fits.f : Nat → Int → Int → Option (Bool)
 | 0, _, _ => none
 | k + 1, a0, a1 => if a0 = 0 then (spec_l07Fits.j0 k a0 a1 true) else (spec_l07Fits.j0 k a0 a1 (a1 == 0))
end
theorem spec_l07Fits.calls (k : Nat) : ∀ (a0 : Int) (a1 : Int) (r : Bool) (w : World) (h : spec_l07Fits.f k a0 a1 = some r),
  Calls Tryz.prog 146 #[.int .i64 a0, .int .i64 a1] w fun e w' => e = .returned (.bool r) ∧ Below w.heap.size w w' := by
 induction k using Nat.strongRecOn with
 | _ k ih =>
 intro a0 a1 r w h
 cases k with
 | zero => exact absurd h (by simp [spec_l07Fits.f])
 | succ k =>
 simp only [spec_l07Fits.f] at h
 have HB := Am (Below.refl w.heap.size w)
 have H : (if a0 = 0 then (spec_l07Fits.j0 k a0 a1 true) else (spec_l07Fits.j0 k a0 a1 (a1 == 0))) = some r := h
 clear h
 have HC3 := Am H
 clear H
 go_enter Tryz.func146, Tryz.ntmps146
 go_upto_region 1 with (fail)
 go_cut [10] (fun v10 wc => ∃ (kq : Nat) (x10_2 : Bool), v10 = .bool x10_2 ∧ Aside0 (spec_l07Fits.j0 kq a0 a1 x10_2 = some r) ∧ Aside0 (kq ≤ k) ∧ Aside0 (Below w.heap.size w wc))
 case first =>
  have H := HC3.out
  clear HC3
  obtain ⟨c4, H⟩ | ⟨c4, H⟩ := Xiu H
  ·have c4b0 : (a0 == 0) = true := beq_iff_eq.mpr c4
   have c4b1 : (a0 != 0) = false := bne_eq_false_iff_eq.mpr c4
   clear c4
   (first | rw [c4b0] | (simp only [i64_w, i32_w]; rw [c4b0]) | skip)
   have H' := Am H
   clear H
   go_wp2
   go_meet
   case rel => exact ⟨_, (true), Xr, H', Xko, ⟨Xi⟩⟩
  have c4b0 : (a0 == 0) = false := beq_eq_false_iff_ne.mpr c4
  have c4b1 : (a0 != 0) = true := bne_iff_ne.mpr c4
  (first | rw [c4b0] | (simp only [i64_w, i32_w]; rw [c4b0]) | skip)
  have H' := Am H
  clear H
  go_wp2
  go_meet
  case rel => exact ⟨_, ((a1 == 0)), Xr, H', Xko, ⟨Xi⟩⟩
 clear HC3
 obtain ⟨kq, x10_2, rfl, HA, HJ2, HB⟩ := hcut
 cases kq with | zero => cases HA.out | succ kj2 => ?_
 have H := HA.out
 clear HA
 simp only [spec_l07Fits.j0] at H
 by_cases c5 : x10_2 = true
 ·subst c5
  try rw [if_pos rfl] at H
  obtain rfl := Xsi H
  go_wp2
  go_ret
  exact ⟨Xe, Xi⟩
 replace c5 := Xbf c5
 subst c5
 try rw [if_neg Xft] at H
 obtain ⟨c6, H⟩ | ⟨c6, H⟩ := Xiu H
 ·have c6b0 : decide (a1 < a0) = true := decide_eq_true c6
  clear c6
  obtain ⟨t12, A7, H⟩ := Xbi H
  try dsimp only at H
  obtain rfl := Xsi H
  go_wp2_with (first | ((with_reducible refine gate_callee (f := 146) rfl ?_); refine Xgo 16 Tryz.func146 #[.int .i64 a1, .int .i64 a0] ?_; (with_reducible refine (ih kj2 (by have := HJ2.out; omega) a1 a0 t12 _ A7.out).mono ?_); rintro e w8 ⟨rfl, hb⟩; refine ⟨_, rfl, ?_⟩; replace HB := Xhb hb; clear hb))
  go_ret
  exact ⟨Xe, Xi⟩
 have c6b0 : decide (a1 < a0) = false := decide_eq_false c6
 clear c6
 obtain ⟨c9, H⟩ | ⟨c9, H⟩ := Xiu H
 ·have c9b0 : (a0 == 1) = true := beq_iff_eq.mpr c9
  have c9b1 : (a0 != 1) = false := bne_eq_false_iff_eq.mpr c9
  clear c9
  obtain rfl := Xsi H
  go_wp2
  go_ret
  exact ⟨Xe, Xi⟩
 have c9b0 : (a0 == 1) = false := beq_eq_false_iff_ne.mpr c9
 have c9b1 : (a0 != 1) = true := bne_iff_ne.mpr c9
 obtain ⟨c10, H⟩ | ⟨c10, H⟩ := Xiu H
 ·have c10b0 : (a0 == 2) = true := beq_iff_eq.mpr c10
  have c10b1 : (a0 != 2) = false := bne_eq_false_iff_eq.mpr c10
  clear c10
  obtain rfl := Xsi H
  go_wp2
  go_ret
  exact ⟨Xe, Xi⟩
 have c10b0 : (a0 == 2) = false := beq_eq_false_iff_ne.mpr c10
 have c10b1 : (a0 != 2) = true := bne_iff_ne.mpr c10
 obtain ⟨c11, H⟩ | ⟨c11, H⟩ := Xiu H
 ·have c11b0 : (a0 == 3) = true := beq_iff_eq.mpr c11
  have c11b1 : (a0 != 3) = false := bne_eq_false_iff_eq.mpr c11
  clear c11
  obtain rfl := Xsi H
  go_wp2
  go_ret
  exact ⟨Xe, Xi⟩
 have c11b0 : (a0 == 3) = false := beq_eq_false_iff_ne.mpr c11
 have c11b1 : (a0 != 3) = true := bne_iff_ne.mpr c11
 obtain rfl := Xsi H
 go_wp2
 go_ret
 exact ⟨Xe, Xi⟩
def spec_l07Clash.l0 : Nat → List (S39) → Int → List Int → Int → Int → Int → List (S113) → Int → Int → Int → Option (Bool)
 | 0, _, _, _, _, _, _, _, _, _, _ => none
 | k + 1, x1, x3, x9, x10, x329000, x329001, x329002, x330000, x330001, x330002 => if x10 < (x9.length : Int) then (if 0 ≤ x10 then ((spec_l07At.f k x329000 x329001 x329002 x1 x330000 (rd x9 x10)).bind fun t11 => ((spec_l07Need.f x330000 x330001 x330002 (rd x9 x10)).bind fun t12 => ((spec_l07Join.f k t11 t12).bind fun t13 => ((spec_l07At.f k x329000 x329001 x329002 x1 x3 (rd x9 x10)).bind fun t14 => ((spec_l07Fits.f k t13 t14).bind fun t15 => (if t15 = true then (spec_l07Clash.l0 k x1 x3 x9 (wrap64 (x10 + 1)) x329000 x329001 x329002 x330000 x330001 x330002) else (some true))))))) else (none)) else (some false)
def spec_l07Clash.f (k : Nat) (a0_0 : Int) (a0_1 : Int) (l0_2 : List (S113)) (l1 : List (S39)) (a2_0 : Int) (a2_1 : Int) (a2_2 : Int) (a3 : Int) : Option (Bool) := (spec_l02Path.f k a0_0 a0_1 l0_2 a2_1).bind fun t10 => (spec_l07Clash.l0 k l1 a3 t10 0 a0_0 a0_1 l0_2 a2_0 a2_1 a2_2)
def spec_l07Clash.T5 : Bool × List (List Nat × List Nat) := (true, [([], []), ([], []), ([], []), ([2], [2]), ([], []), ([], []), ([4, 5], [4, 5]), ([6], [6]), ([0, 1, 3, 7], [0, 1, 3, 7]), ([], []), ([], []), ([], []), ([10, 11], [10, 11]), ([12], [12]), ([9, 13, 8], [9, 13]), ([8, 14, 14], [8, 14]), ([15, 15, 0, 1, 2, 3, 4, 5, 6, 7, 8, 9, 10, 11, 12, 13, 14, 15], [15])])
def spec_l07Clash.B5 : List Nat := [0, 0, 0, 4, 0, 0, 48, 112, 255, 0, 0, 0, 3072, 7168, 16383, 32767, 65535]
theorem spec_l07Clash.tab5 : rtab .any (opsOf Tryz.f91 5) = spec_l07Clash.T5 := by kernel_rfl
theorem spec_l07Clash.bits5 : waitsOk spec_l07Clash.T5.2 spec_l07Clash.B5 = true := by kernel_rfl
def spec_l07Clash.T6 : Bool × List (List Nat × List Nat) := (true, [([], []), ([], []), ([], []), ([], []), ([], []), ([], []), ([4, 5], [4, 5]), ([6], [6]), ([1, 2, 3, 7], [1, 2, 3, 7]), ([0, 8, 8], [0, 8]), ([9], [9])])
def spec_l07Clash.B6 : List Nat := [0, 0, 0, 0, 0, 0, 48, 112, 254, 511, 1023]
theorem spec_l07Clash.tab6 : rtab .any (opsOf Tryz.f91 6) = spec_l07Clash.T6 := by kernel_rfl
theorem spec_l07Clash.bits6 : waitsOk spec_l07Clash.T6.2 spec_l07Clash.B6 = true := by kernel_rfl
theorem spec_l07Clash.calls (k : Nat) (a0_0 : Int) (a0_1 : Int) (A0_2 : Option Addr) (c0_2 : Nat) (l0_2 : List (S113)) (A1 : Option Addr) (c1 : Nat) (l1 : List (S39)) (a2_0 : Int) (a2_1 : Int) (a2_2 : Int) (a3 : Int) (r : Bool) (w : World) (hr0_2 : Kd.C k113 w A0_2 l0_2.length l0_2) (hc0_2 : l0_2.length ≤ c0_2) (hr1 : Kd.C k39 w A1 l1.length l1) (hc1 : l1.length ≤ c1) (h : spec_l07Clash.f k a0_0 a0_1 l0_2 l1 a2_0 a2_1 a2_2 a3 = some r) :
  Calls Tryz.prog 91 #[.agg #[.int .i64 a0_0, .int .i64 a0_1, .slice A0_2 l0_2.length c0_2], .slice A1 l1.length c1, .agg #[.int .i64 a2_0, .int .i64 a2_1, .int .i64 a2_2], .int .i64 a3] w fun e w' => e = .returned (.bool r) ∧ Below w.heap.size w w' := by
 have hu35 := Tryz.underlying35
 have hu39 := Tryz.underlying39
 have HR0_2 := Am hr0_2
 have HC0_2 := Am hc0_2
 clear hr0_2 hc0_2
 have HR1 := Am hr1
 have HC1 := Am hc1
 clear hr1 hc1
 have HB := Am (Below.refl w.heap.size w)
 have H : ((spec_l02Path.f k a0_0 a0_1 l0_2 a2_1).bind fun t30 => (spec_l07Clash.l0 k l1 a3 t30 0 a0_0 a0_1 l0_2 a2_0 a2_1 a2_2)) = some r := h
 clear h
 obtain ⟨t30, A5, H⟩ := Xbi H
 try dsimp only at H
 have H' := Am H
 clear H
 go_enter Tryz.func91, Tryz.ntmps91
 go_wp2_with (first | ((with_reducible refine gate_dst (N := 4) rfl ?_); refine Xbx 4 #[.int .i64 a0_0, .int .i64 a0_1, .slice A0_2 l0_2.length c0_2] 35 ?_; intro gb31 hg w6 B31 GE31 hb; replace HB := Xhb hb; clear hb hg) | ((with_reducible refine gate_dst (N := 6) rfl ?_); refine Xbx 6 #[.int .i64 a2_0, .int .i64 a2_1, .int .i64 a2_2] 39 ?_; intro gb32 hg w7 B32 GE32 hb; replace HB := Xhb hb; have NB31_32 := Xnb hg B31; have NB32_31 := Xns NB31_32; replace B31 := Xbb B31 hb; clear hb hg; have hnb8 := NB31_32.out; have hnc8 := NB32_31.out; obtain ⟨Z9_0, Z9_1, Z9_2⟩ := Xc3 B31; obtain ⟨Z10_0, Z10_1, Z10_2⟩ := Xc3 B32) | ((with_reducible refine gate_callee (f := 134) rfl ?_); refine Xgo 15 Tryz.func134 #[.agg #[.int .i64 a0_0, .int .i64 a0_1, .slice A0_2 l0_2.length c0_2], .int .i64 a2_1] ?_; (with_reducible refine (spec_l02Path.calls k a0_0 a0_1 _ _ l0_2 a2_1 t30 _ ?s1 ?s2 A5.out).mono ?_); (case s1 => exact Xc HR0_2); (case s2 => exact HC0_2.out); rintro e w11 ⟨v331, rfl, ho0, hb⟩; refine ⟨_, rfl, ?_⟩; have HO33 := Am (Kd.R_lower ho0 (below_size Xi)); replace B31 := Xbb B31 hb; replace B32 := Xbb B32 hb; replace HB := Xhb hb; clear hb; (try clear ho0)))
 go_loopg [10] k (fun kq v10 w' => ∃ (x10_1 : Int), v10 = .int .i64 x10_1 ∧ Aside0 (spec_l07Clash.l0 kq l1 a3 t30 x10_1 a0_0 a0_1 l0_2 a2_0 a2_1 a2_2 = some r) ∧ Aside0 (kq ≤ k) ∧ Aside0 (Kd.R (Kd.int .i64) 3 w' w.heap.size (fun _ => True) v331 t30) ∧ Aside0 (w'.heap[gb31]? = some (.cells #[.int .i64 a0_0, .int .i64 a0_1, (.slice A0_2 l0_2.length c0_2)] 35 (0, 0))) ∧ Aside0 (w'.heap[gb32]? = some (.cells #[.int .i64 a2_0, .int .i64 a2_1, .int .i64 a2_2] 39 (0, 0))) ∧ Aside0 (Below w.heap.size w w'))
 case atStart => exact ⟨(0), Xr, H', Xkr, (Xp' HO33), B31, B32, ⟨Xi⟩⟩
 clear H'
 (try clear c1); (try clear Z10_0); (try clear Z10_1); (try clear Z10_2); (try clear Z9_0); (try clear Z9_1); (try clear Z9_2)
 obtain ⟨x10_1, rfl, HA, HK1, O_9, B31, B32, HB⟩ := hrel
 cases gk with | zero => cases HA.out | succ k1 => ?_
 have H := HA.out
 clear HA
 simp only [spec_l07Clash.l0] at H
 obtain ⟨c12b0, H⟩ | ⟨c12b0, H⟩ := Xit H
 ·obtain ⟨c13b0, H⟩ := Xid H
  obtain ⟨t34, A14, H⟩ := Xbi H
  try dsimp only at H
  obtain ⟨t36, A15, H⟩ := Xbi H
  try dsimp only at H
  obtain ⟨t37, A16, H⟩ := Xbi H
  try dsimp only at H
  obtain ⟨t38, A17, H⟩ := Xbi H
  try dsimp only at H
  obtain ⟨t40, A18, H⟩ := Xbi H
  try dsimp only at H
  have HC19 := Am H
  clear H
  obtain ⟨Ao20, co20, eo20⟩ := Kd.R_slice O_9.out
  subst eo20
  try go_wp2_with (fail)
  replace O_9 := Am (Kd.R_drew O_9.out)
  replace B31 := Xbd B31
  replace B32 := Xbd B32
  replace HB := Xhd HB
  have p41 : 0 ≤ (x10_1 : Int) := Xo
  have q41 : x10_1 < (t30.length : Int) := Xo
  obtain ⟨ad41, e41, hx41_0⟩ := Kd.at_int (Kd.R_reads' O_9.out).2.2 x10_1 p41 q41
  cases e41
  replace p41 := eq_true p41
  replace q41 := eq_true q41
  have p42 : 0 ≤ (x10_1 : Int) := Xo
  have q42 : x10_1 < (t30.length : Int) := Xo
  obtain ⟨ad42, e42, hx42_0⟩ := Kd.at_int (Kd.R_reads' O_9.out).2.2 x10_1 p42 q42
  obtain rfl : ad41 = ad42 := (by injection e42)
  replace p42 := eq_true p42
  replace q42 := eq_true q42
  refine Sx 17 (fun w' => w'.cell? ⟨gb31, 0, none⟩ = some (.int .i64 a0_0) ∧ w'.cell? ⟨gb31, 1, none⟩ = some (.int .i64 a0_1) ∧ w'.cell? ⟨gb31, 2, none⟩ = some (.slice A0_2 l0_2.length c0_2) ∧ w'.cell? ⟨gb32, 0, none⟩ = some (.int .i64 a2_0) ∧ w'.cell? ⟨gb32, 1, none⟩ = some (.int .i64 a2_1) ∧ w'.cell? ⟨gb32, 2, none⟩ = some (.int .i64 a2_2) ∧ w'.cell? (ad41.add (x10_1).toNat) = some (.int .i64 (rd t30 x10_1)) ∧ w'.cell? (ad41.add (x10_1).toNat) = some (.int .i64 (rd t30 x10_1))) ⟨Xk B31 0, Xk B31 1, Xk B31 2, Xk B32 0, Xk B32 1, Xk B32 2, hx41_0, hx42_0⟩ (fun hHeld => ?_); refine with_tabW spec_l07Clash.tab5 spec_l07Clash.bits5 (fun HT_ HW_ => ?_)
  generalize wr.drew = w21 at O_9 B31 B32 HB hx41_0 hx42_0 hHeld ⊢
  refine Pu 1 23 17 2 ?_
  refine Pu 2 24 17 6 ?_
  refine Pu 4 26 17 22 ?_
  refine Pu 5 27 17 54 ?_
  refine Pu 6 28 17 118 ?_
  refine Pu 10 32 17 1142 ?_
  refine Pu 11 33 17 3190 ?_
  refine Pu 12 34 17 7286 ?_
  refine Ta 0 22 17 7287 ?_
  refine Ta 3 25 17 7295 ?_
  refine Ta 7 29 17 7423 ?_
  refine Ta 9 31 17 7935 ?_
  refine Ta 13 35 17 16127 ?_
  refine On 8 30 17 16383 (fun K hK => ?_)
  refine Gs Tryz.func77 #[.agg #[.int .i64 a0_0, .int .i64 a0_1, .slice A0_2 l0_2.length c0_2], .slice A1 l1.length c1, .int .i64 a2_0, .int .i64 (rd t30 x10_1)] ?_
  with_reducible refine (spec_l07At.calls k1 a0_0 a0_1 _ _ l0_2 _ _ l1 a2_0 (rd t30 x10_1) t34 _ ?s1 ?s2 ?s3 ?s4 A14.out).mono ?_
  (case s1 => exact Xc HR0_2)
  (case s2 => exact HC0_2.out)
  (case s3 => exact Xc HR1)
  (case s4 => exact HC1.out)
  rintro e w22 ⟨rfl, hb⟩
  have HS6_ := (hb.cell (World.block_lt_of_cell? _ _ (hHeld.2.2.2.2.2.2.1))).trans (hHeld.2.2.2.2.2.2.1)
  have HS7_ := (hb.cell (World.block_lt_of_cell? _ _ (hHeld.2.2.2.2.2.2.2))).trans (hHeld.2.2.2.2.2.2.2)
  refine ⟨_, rfl, ?_⟩
  replace O_9 := Am (Kd.R_below (Xq O_9) hb)
  replace B31 := Xbb B31 hb
  replace B32 := Xbb B32 hb
  replace HB := Xhb hb
  try clear hb
  try clear hb2
  try clear hk
  try clear hi
  refine hK.out _ _ ⟨Xk B31 0, Xk B31 1, Xk B31 2, Xk B32 0, Xk B32 1, Xk B32 2, HS6_, HS7_⟩ (fun hHeld => ?_)
  clear hK K
  refine Xno ?_
  refine On 14 36 17 32767 (fun K hK => ?_)
  refine Gs Tryz.func145 #[.agg #[.int .i64 a2_0, .int .i64 a2_1, .int .i64 a2_2], .int .i64 (rd t30 x10_1)] ?_
  with_reducible refine (spec_l07Need.calls a2_0 a2_1 a2_2 (rd t30 x10_1) t36 _ A15.out).mono ?_
  rintro e w23 ⟨rfl, hb⟩
  have HS6_ := (hb.cell (World.block_lt_of_cell? _ _ (hHeld.2.2.2.2.2.2.1))).trans (hHeld.2.2.2.2.2.2.1)
  have HS7_ := (hb.cell (World.block_lt_of_cell? _ _ (hHeld.2.2.2.2.2.2.2))).trans (hHeld.2.2.2.2.2.2.2)
  refine ⟨_, rfl, ?_⟩
  replace O_9 := Am (Kd.R_below (Xq O_9) hb)
  replace B31 := Xbb B31 hb
  replace B32 := Xbb B32 hb
  replace HB := Xhb hb
  try clear hb
  try clear hb2
  try clear hk
  try clear hi
  refine hK.out _ _ ⟨Xk B31 0, Xk B31 1, Xk B31 2, Xk B32 0, Xk B32 1, Xk B32 2, HS6_, HS7_⟩ (fun hHeld => ?_)
  clear hK K
  refine Xno ?_
  refine On 15 37 17 65535 (fun K hK => ?_)
  refine Gs Tryz.func133 #[.int .i64 t34, .int .i64 t36] ?_
  with_reducible refine (spec_l07Join.calls k1 t34 t36 t37 _ A16.out).mono ?_
  rintro e w24 ⟨rfl, hb⟩
  have HS6_ := (hb.cell (World.block_lt_of_cell? _ _ (hHeld.2.2.2.2.2.2.1))).trans (hHeld.2.2.2.2.2.2.1)
  have HS7_ := (hb.cell (World.block_lt_of_cell? _ _ (hHeld.2.2.2.2.2.2.2))).trans (hHeld.2.2.2.2.2.2.2)
  refine ⟨_, rfl, ?_⟩
  replace O_9 := Am (Kd.R_below (Xq O_9) hb)
  replace B31 := Xbb B31 hb
  replace B32 := Xbb B32 hb
  replace HB := Xhb hb
  try clear hb
  try clear hb2
  try clear hk
  try clear hi
  refine hK.out _ _ ⟨Xk B31 0, Xk B31 1, Xk B31 2, Xk B32 0, Xk B32 1, Xk B32 2, HS6_, HS7_⟩ (fun hHeld => ?_)
  clear hK K
  refine Xno ?_
  refine Pu 16 11 17 131071 ?_
  refine Dn ?_
  try go_wp2_with (fail)
  replace O_9 := Am (Kd.R_drew O_9.out)
  replace B31 := Xbd B31
  replace B32 := Xbd B32
  replace HB := Xhd HB
  have p43 : 0 ≤ (x10_1 : Int) := Xo
  have q43 : x10_1 < (t30.length : Int) := Xo
  obtain ⟨ad43, e43, hx43_0⟩ := Kd.at_int (Kd.R_reads' O_9.out).2.2 x10_1 p43 q43
  obtain rfl : ad41 = ad43 := (by injection e43)
  replace p43 := eq_true p43
  replace q43 := eq_true q43
  refine Sx 11 (fun w' => w'.cell? ⟨gb31, 0, none⟩ = some (.int .i64 a0_0) ∧ w'.cell? ⟨gb31, 1, none⟩ = some (.int .i64 a0_1) ∧ w'.cell? ⟨gb31, 2, none⟩ = some (.slice A0_2 l0_2.length c0_2) ∧ w'.cell? (ad41.add (x10_1).toNat) = some (.int .i64 (rd t30 x10_1))) ⟨Xk B31 0, Xk B31 1, Xk B31 2, hx43_0⟩ (fun hHeld => ?_); refine with_tabW spec_l07Clash.tab6 spec_l07Clash.bits6 (fun HT_ HW_ => ?_)
  generalize w24.drew = w25 at O_9 B31 B32 HB hx43_0 hHeld ⊢
  refine Pu 0 38 11 1 ?_
  refine Pu 2 40 11 5 ?_
  refine Pu 3 41 11 13 ?_
  refine Pu 4 42 11 29 ?_
  refine Pu 5 43 11 61 ?_
  refine Pu 6 44 11 125 ?_
  refine Ta 1 39 11 127 ?_
  refine Ta 7 45 11 255 ?_
  refine On 8 46 11 511 (fun K hK => ?_)
  refine Gs Tryz.func77 #[.agg #[.int .i64 a0_0, .int .i64 a0_1, .slice A0_2 l0_2.length c0_2], .slice A1 l1.length c1, .int .i64 a3, .int .i64 (rd t30 x10_1)] ?_
  with_reducible refine (spec_l07At.calls k1 a0_0 a0_1 _ _ l0_2 _ _ l1 a3 (rd t30 x10_1) t38 _ ?s1 ?s2 ?s3 ?s4 A17.out).mono ?_
  (case s1 => exact Xc HR0_2)
  (case s2 => exact HC0_2.out)
  (case s3 => exact Xc HR1)
  (case s4 => exact HC1.out)
  rintro e w26 ⟨rfl, hb⟩
  have HS3_ := (hb.cell (World.block_lt_of_cell? _ _ (hHeld.2.2.2))).trans (hHeld.2.2.2)
  refine ⟨_, rfl, ?_⟩
  replace O_9 := Am (Kd.R_below (Xq O_9) hb)
  replace B31 := Xbb B31 hb
  replace B32 := Xbb B32 hb
  replace HB := Xhb hb
  try clear hb
  try clear hb2
  try clear hk
  try clear hi
  refine hK.out _ _ ⟨Xk B31 0, Xk B31 1, Xk B31 2, HS3_⟩ (fun hHeld => ?_)
  clear hK K
  refine Xno ?_
  refine On 9 47 11 1023 (fun K hK => ?_)
  refine Gs Tryz.func146 #[.int .i64 t37, .int .i64 t38] ?_
  with_reducible refine (spec_l07Fits.calls k1 t37 t38 t40 _ A18.out).mono ?_
  rintro e w27 ⟨rfl, hb⟩
  have HS3_ := (hb.cell (World.block_lt_of_cell? _ _ (hHeld.2.2.2))).trans (hHeld.2.2.2)
  refine ⟨_, rfl, ?_⟩
  replace O_9 := Am (Kd.R_below (Xq O_9) hb)
  replace B31 := Xbb B31 hb
  replace B32 := Xbb B32 hb
  replace HB := Xhb hb
  try clear hb
  try clear hb2
  try clear hk
  try clear hi
  refine hK.out _ _ ⟨Xk B31 0, Xk B31 1, Xk B31 2, HS3_⟩ (fun hHeld => ?_)
  clear hK K
  refine Xno ?_
  refine Pu 10 48 11 2047 ?_
  refine Dn ?_
  go_upto_if 48 with (fail)
  have H := HC19.out
  clear HC19
  by_cases c28 : t40 = true
  ·subst c28
   try rw [if_pos rfl] at H
   have H' := Am H
   clear H
   go_wp2
   go_roundg k1
   case measure => have := HK1.out; omega
   case rel => exact ⟨(wrap64 (x10_1 + 1)), Xr, H', Xk1, (Xp' O_9), B31, B32, ⟨Xi⟩⟩
  replace c28 := Xbf c28
  subst c28
  try rw [if_neg Xft] at H
  obtain rfl := Xsi H
  go_wp2
  go_ret
  exact ⟨Xe, Xi⟩
 obtain rfl := Xsi H
 obtain ⟨Ao29, co29, eo29⟩ := Kd.R_slice O_9.out
 subst eo29
 go_wp2
 go_ret
 exact ⟨Xe, Xi⟩
def spec_l07Conflicts.l0 : Nat → List (S39) → List Int → List Int → Int → Int → Int → List (S113) → Int → Int → Int → Option (List Int)
 | 0, _, _, _, _, _, _, _, _, _, _ => none
 | k + 1, x1, x7, x8, x9, x342000, x342001, x342002, x343000, x343001, x343002 => if x9 < (x8.length : Int) then (if 0 ≤ x9 then (if (rd x8 x9) = x343000 then (spec_l07Conflicts.l0 k x1 x7 x8 (wrap64 (x9 + 1)) x342000 x342001 x342002 x343000 x343001 x343002) else ((spec_l07Clash.f k x342000 x342001 x342002 x1 x343000 x343001 x343002 (rd x8 x9)).bind fun t10 => (if t10 = true then (if x7.length < 17592186044416 then (spec_l07Conflicts.l0 k x1 (x7 ++ [rd x8 x9]) x8 (wrap64 (x9 + 1)) x342000 x342001 x342002 x343000 x343001 x343002) else (none)) else (spec_l07Conflicts.l0 k x1 x7 x8 (wrap64 (x9 + 1)) x342000 x342001 x342002 x343000 x343001 x343002)))) else (none)) else (some x7)
def spec_l07Conflicts.f (k : Nat) (a0_0 : Int) (a0_1 : Int) (l0_2 : List (S113)) (l1 : List (S39)) (a2_0 : Int) (a2_1 : Int) (a2_2 : Int) : Option (List Int) := (spec_l07Sessions.f k l1).bind fun t10 => (spec_l07Conflicts.l0 k l1 (([] : List Int)) t10 0 a0_0 a0_1 l0_2 a2_0 a2_1 a2_2)
def spec_l07Conflicts.T6 : Bool × List (List Nat × List Nat) := (true, [([], []), ([], []), ([0, 1], [0, 1]), ([2], [2]), ([], []), ([4], [4]), ([3, 5], [3, 5]), ([6], [6]), ([7], [7]), ([7], [7]), ([7], [7]), ([7], [7]), ([7], [7]), ([11, 12, 7], [7, 11, 12]), ([13, 7], [7, 13]), ([8, 9, 10, 14, 7, 7], [7, 8, 9, 10, 14]), ([7, 15], [7, 15])])
def spec_l07Conflicts.B6 : List Nat := [0, 0, 3, 7, 0, 16, 63, 127, 255, 255, 255, 255, 255, 6399, 14591, 32767, 65535]
theorem spec_l07Conflicts.tab6 : rtab .any (opsOf Tryz.f47 6) = spec_l07Conflicts.T6 := by kernel_rfl
theorem spec_l07Conflicts.bits6 : waitsOk spec_l07Conflicts.T6.2 spec_l07Conflicts.B6 = true := by kernel_rfl
theorem spec_l07Conflicts.calls (k : Nat) (a0_0 : Int) (a0_1 : Int) (A0_2 : Option Addr) (c0_2 : Nat) (l0_2 : List (S113)) (A1 : Option Addr) (c1 : Nat) (l1 : List (S39)) (a2_0 : Int) (a2_1 : Int) (a2_2 : Int) (r : List Int) (w : World) (hr0_2 : Kd.C k113 w A0_2 l0_2.length l0_2) (hc0_2 : l0_2.length ≤ c0_2) (hr1 : Kd.C k39 w A1 l1.length l1) (hc1 : l1.length ≤ c1) (h : spec_l07Conflicts.f k a0_0 a0_1 l0_2 l1 a2_0 a2_1 a2_2 = some r) :
  Calls Tryz.prog 47 #[.agg #[.int .i64 a0_0, .int .i64 a0_1, .slice A0_2 l0_2.length c0_2], .slice A1 l1.length c1, .agg #[.int .i64 a2_0, .int .i64 a2_1, .int .i64 a2_2]] w fun e w' => ∃ v0_ : Value, e = .returned (v0_) ∧ Kd.R (Kd.int .i64) 3 w' w.heap.size (fun _ => True) v0_ r ∧ Below w.heap.size w w' := by
 have hu35 := Tryz.underlying35
 have hu39 := Tryz.underlying39
 have HR0_2 := Am hr0_2
 have HC0_2 := Am hc0_2
 clear hr0_2 hc0_2
 have HR1 := Am hr1
 have HC1 := Am hc1
 clear hr1 hc1
 have HB := Am (Below.refl w.heap.size w)
 have H : ((spec_l07Sessions.f k l1).bind fun t24 => (spec_l07Conflicts.l0 k l1 (([] : List Int)) t24 0 a0_0 a0_1 l0_2 a2_0 a2_1 a2_2)) = some r := h
 clear h
 obtain ⟨y25, hy25⟩ : ∃ y_ : List Int, y_ = (([] : List Int)) := ⟨_, rfl⟩
 replace H : ((spec_l07Sessions.f k l1).bind fun t24 => (spec_l07Conflicts.l0 k l1 y25 t24 0 a0_0 a0_1 l0_2 a2_0 a2_1 a2_2)) = some r := by first | (rw [hy25]; with_reducible exact H) | (have H2_ := (Option.bind_some _ _).symm.trans H; rw [hy25]; with_reducible exact H2_) | (have H2_ := (Option.bind_some _ _).symm.trans H; with_reducible exact H2_) | with_reducible exact H | (rw [hy25]; exact H) | exact H
 have Ny25 := Am hy25
 clear hy25
 obtain ⟨t24, A4, H⟩ := Xbi H
 try dsimp only at H
 have H' := Am H
 clear H
 go_enter Tryz.func47, Tryz.ntmps47
 go_wp2_with (first | ((with_reducible refine gate_dst (N := 3) rfl ?_); refine Xbx 3 #[.int .i64 a0_0, .int .i64 a0_1, .slice A0_2 l0_2.length c0_2] 35 ?_; intro gb26 hg w5 B26 GE26 hb; replace HB := Xhb hb; clear hb hg) | ((with_reducible refine gate_dst (N := 5) rfl ?_); refine Xbx 5 #[.int .i64 a2_0, .int .i64 a2_1, .int .i64 a2_2] 39 ?_; intro gb27 hg w6 B27 GE27 hb; replace HB := Xhb hb; have NB26_27 := Xnb hg B26; have NB27_26 := Xns NB26_27; replace B26 := Xbb B26 hb; clear hb hg) | ((with_reducible refine gate_dst (N := 10) rfl ?_); refine Kd.R_lit (Kd.int .i64) _ 3 ?hg (N := 10) ?hd (xs := ([] : List Int)) (inner := []) (ok := fun _ => True) (okp := fun _ => True) ?hr ?hp (fun _ hk => hk) trivial (Below.refl _ _) (Nat.le_refl _) (by simp) ?_; (case hd => rfl); (case hg => rfl); (case hr => first | (go_simp; done) | (go_simp; rfl)); (case hp => exact (Reps.none _ _)); intro v344 w7 ho8 hb hg_ hnew_; clear hg_ hnew_; (first | rw [← Ny25.out] at ho8 | (simp only [Int.reduceToNat] at ho8; rw [← Ny25.out] at ho8)); have HO28 := Am (Kd.R_lower ho8 (below_size Xi)); replace B26 := Xbb B26 hb; replace B27 := Xbb B27 hb; replace HB := Xhb hb; clear hb ho8) | ((with_reducible refine gate_callee (f := 90) rfl ?_); refine Xgo 12 Tryz.func90 #[.slice A1 l1.length c1] ?_; (with_reducible refine (spec_l07Sessions.calls k _ _ l1 t24 _ ?s1 ?s2 A4.out).mono ?_); (case s1 => exact Xc HR1); (case s2 => exact HC1.out); rintro e w9 ⟨v347, rfl, ho0, hb⟩; refine ⟨_, rfl, ?_⟩; have HO29 := Am (Kd.R_lower (Kd.R_new' ho0 (Kd.R_lt (Xq HO28))) (below_size Xi)); replace HO28 := Am (Kd.R_elder' (Xq HO28) (Kd.R_base ho0) hb); replace B26 := Xbb B26 hb; replace B27 := Xbb B27 hb; replace HB := Xhb hb; clear hb; (try clear ho0)))
 go_loopg [7, 9] k (fun kq v7 v9 w' => ∃ (x7_1 : List Int) (x9_1 : Int), v9 = .int .i64 x9_1 ∧ Aside0 (spec_l07Conflicts.l0 kq l1 x7_1 t24 x9_1 a0_0 a0_1 l0_2 a2_0 a2_1 a2_2 = some r) ∧ Aside0 (kq ≤ k) ∧ Aside0 (Kd.R (Kd.int .i64) 3 w' w.heap.size (fun k_ => some k_ ≠ (v347 : Value).ownBlock) v7 x7_1) ∧ Aside0 (Kd.R (Kd.int .i64) 3 w' w.heap.size (fun k_ => some k_ ≠ (v7 : Value).ownBlock) v347 t24) ∧ Aside0 (w'.heap[gb26]? = some (.cells #[.int .i64 a0_0, .int .i64 a0_1, (.slice A0_2 l0_2.length c0_2)] 35 (0, 0))) ∧ Aside0 (w'.heap[gb27]? = some (.cells #[.int .i64 a2_0, .int .i64 a2_1, .int .i64 a2_2] 39 (0, 0))) ∧ Aside0 (Below w.heap.size w w'))
 case atStart => exact ⟨(y25), (0), Xr, H', Xkr, ⟨by (with_reducible repeat (first | apply Kd.R_alloc | apply Kd.R_drewN | apply Kd.R_drew)); exact Kd.R_mono HO28.out (fun _ hk => hk.2)⟩, ⟨by (with_reducible repeat (first | apply Kd.R_alloc | apply Kd.R_drewN | apply Kd.R_drew)); exact Kd.R_mono HO29.out (fun _ hk => hk.2)⟩, (Xp B26), (Xp B27), ⟨Xi⟩⟩
 clear H'
 try clear c1
 obtain ⟨x7_1, x9_1, rfl, HA, HK1, O_7, O_8, B26, B27, HB⟩ := hrel
 cases gk with | zero => cases HA.out | succ k1 => ?_
 have H := HA.out
 clear HA
 simp only [spec_l07Conflicts.l0] at H
 obtain ⟨c10b0, H⟩ | ⟨c10b0, H⟩ := Xit H
 ·obtain ⟨c11b0, H⟩ := Xid H
  obtain ⟨c12, H⟩ | ⟨c12, H⟩ := Xiu H
  ·have c12b0 : ((rd t24 x9_1) == a2_0) = true := beq_iff_eq.mpr c12
   have c12b1 : ((rd t24 x9_1) != a2_0) = false := bne_eq_false_iff_eq.mpr c12
   clear c12
   have H' := Am H
   clear H
   obtain ⟨Ao13, co13, eo13⟩ := Kd.R_slice O_8.out
   subst eo13
   try go_wp2_with (fail)
   replace O_7 := Am (Kd.R_drew O_7.out)
   replace O_8 := Am (Kd.R_drew O_8.out)
   replace B26 := Xbd B26
   replace B27 := Xbd B27
   replace HB := Xhd HB
   have p30 : 0 ≤ (x9_1 : Int) := Xo
   have q30 : x9_1 < (t24.length : Int) := Xo
   obtain ⟨ad30, e30, hx30_0⟩ := Kd.at_int (Kd.R_reads' O_8.out).2.2 x9_1 p30 q30
   cases e30
   replace p30 := eq_true p30
   replace q30 := eq_true q30
   refine Sx 17 (fun w' => w'.cell? ⟨gb27, 0, none⟩ = some (.int .i64 a2_0) ∧ w'.cell? ⟨gb27, 1, none⟩ = some (.int .i64 a2_1) ∧ w'.cell? ⟨gb27, 2, none⟩ = some (.int .i64 a2_2) ∧ w'.cell? (ad30.add (x9_1).toNat) = some (.int .i64 (rd t24 x9_1))) ⟨Xk B27 0, Xk B27 1, Xk B27 2, hx30_0⟩ (fun hHeld => ?_); refine with_tabW spec_l07Conflicts.tab6 spec_l07Conflicts.bits6 (fun HT_ HW_ => ?_)
   generalize wr.drew = w14 at O_7 O_8 B26 B27 HB hx30_0 hHeld ⊢
   refine Pu 0 19 17 1 ?_
   refine Pu 1 20 17 3 ?_
   refine Pu 2 21 17 7 ?_
   refine Pu 4 23 17 23 ?_
   refine Ta 3 22 17 31 ?_
   refine Ta 5 24 17 63 ?_
   refine Pu 6 25 17 127 ?_
   refine Pu 7 26 17 255 ?_
   refine Pn 8 27 17 511 ?_
   refine Pn 9 28 17 1023 ?_
   refine Pn 10 29 17 2047 ?_
   refine Pn 11 30 17 4095 ?_
   refine Pn 12 31 17 8191 ?_
   refine Pn 13 32 17 16383 ?_
   refine Pn 14 33 17 32767 ?_
   refine Pn 15 34 17 65535 ?_
   refine Pu 16 35 17 131071 ?_
   refine Dn ?_
   try go_wp2_with (fail)
   go_roundg k1
   case measure => have := HK1.out; omega
   case rel => exact ⟨(x7_1), (wrap64 (x9_1 + 1)), Xr, H', Xk1, (Xp' O_7), (Xp' O_8), (Xp B26), (Xp B27), ⟨Xi⟩⟩
  have c12b0 : ((rd t24 x9_1) == a2_0) = false := beq_eq_false_iff_ne.mpr c12
  have c12b1 : ((rd t24 x9_1) != a2_0) = true := bne_iff_ne.mpr c12
  obtain ⟨t31, A15, H⟩ := Xbi H
  try dsimp only at H
  have HC16 := Am H
  clear H
  obtain ⟨Ao17, co17, eo17⟩ := Kd.R_slice O_8.out
  subst eo17
  try go_wp2_with (fail)
  replace O_7 := Am (Kd.R_drew O_7.out)
  replace O_8 := Am (Kd.R_drew O_8.out)
  replace B26 := Xbd B26
  replace B27 := Xbd B27
  replace HB := Xhd HB
  have p30 : 0 ≤ (x9_1 : Int) := Xo
  have q30 : x9_1 < (t24.length : Int) := Xo
  obtain ⟨ad30, e30, hx30_0⟩ := Kd.at_int (Kd.R_reads' O_8.out).2.2 x9_1 p30 q30
  cases e30
  replace p30 := eq_true p30
  replace q30 := eq_true q30
  have p32 : 0 ≤ (x9_1 : Int) := Xo
  have q32 : x9_1 < (t24.length : Int) := Xo
  obtain ⟨ad32, e32, hx32_0⟩ := Kd.at_int (Kd.R_reads' O_8.out).2.2 x9_1 p32 q32
  obtain rfl : ad30 = ad32 := (by injection e32)
  replace p32 := eq_true p32
  replace q32 := eq_true q32
  refine Sx 17 (fun w' => w'.cell? ⟨gb27, 0, none⟩ = some (.int .i64 a2_0) ∧ w'.cell? ⟨gb27, 1, none⟩ = some (.int .i64 a2_1) ∧ w'.cell? ⟨gb27, 2, none⟩ = some (.int .i64 a2_2) ∧ w'.cell? ⟨gb26, 0, none⟩ = some (.int .i64 a0_0) ∧ w'.cell? ⟨gb26, 1, none⟩ = some (.int .i64 a0_1) ∧ w'.cell? ⟨gb26, 2, none⟩ = some (.slice A0_2 l0_2.length c0_2) ∧ w'.cell? (ad30.add (x9_1).toNat) = some (.int .i64 (rd t24 x9_1)) ∧ w'.cell? (ad30.add (x9_1).toNat) = some (.int .i64 (rd t24 x9_1))) ⟨Xk B27 0, Xk B27 1, Xk B27 2, Xk B26 0, Xk B26 1, Xk B26 2, hx30_0, hx32_0⟩ (fun hHeld => ?_); refine with_tabW spec_l07Conflicts.tab6 spec_l07Conflicts.bits6 (fun HT_ HW_ => ?_)
  generalize wr.drew = w18 at O_7 O_8 B26 B27 HB hx30_0 hx32_0 hHeld ⊢
  refine Pu 0 19 17 1 ?_
  refine Pu 1 20 17 3 ?_
  refine Pu 2 21 17 7 ?_
  refine Pu 4 23 17 23 ?_
  refine Ta 3 22 17 31 ?_
  refine Ta 5 24 17 63 ?_
  refine Pu 6 25 17 127 ?_
  refine Pu 7 26 17 255 ?_
  refine Pu 9 28 17 767 ?_
  refine Pu 11 30 17 2815 ?_
  refine Pu 12 31 17 6911 ?_
  refine Pu 13 32 17 15103 ?_
  refine Ta 8 27 17 15359 ?_
  refine Ta 10 29 17 16383 ?_
  refine Ta 14 33 17 32767 ?_
  refine On 15 34 17 65535 (fun K hK => ?_)
  refine Gs Tryz.func91 #[.agg #[.int .i64 a0_0, .int .i64 a0_1, .slice A0_2 l0_2.length c0_2], .slice A1 l1.length c1, .agg #[.int .i64 a2_0, .int .i64 a2_1, .int .i64 a2_2], .int .i64 (rd t24 x9_1)] ?_
  with_reducible refine (spec_l07Clash.calls k1 a0_0 a0_1 _ _ l0_2 _ _ l1 a2_0 a2_1 a2_2 (rd t24 x9_1) t31 _ ?s1 ?s2 ?s3 ?s4 A15.out).mono ?_
  (case s1 => exact Xc HR0_2)
  (case s2 => exact HC0_2.out)
  (case s3 => exact Xc HR1)
  (case s4 => exact HC1.out)
  rintro e w19 ⟨rfl, hb⟩
  have HS6_ := (hb.cell (World.block_lt_of_cell? _ _ (hHeld.2.2.2.2.2.2.1))).trans (hHeld.2.2.2.2.2.2.1)
  have HS7_ := (hb.cell (World.block_lt_of_cell? _ _ (hHeld.2.2.2.2.2.2.2))).trans (hHeld.2.2.2.2.2.2.2)
  refine ⟨_, rfl, ?_⟩
  replace O_7 := Am (Kd.R_below (Xq O_7) hb)
  replace O_8 := Am (Kd.R_below (Xq O_8) hb)
  replace B26 := Xbb B26 hb
  replace B27 := Xbb B27 hb
  replace HB := Xhb hb
  try clear hb
  try clear hb2
  try clear hk
  try clear hi
  refine hK.out _ _ ⟨Xk B27 0, Xk B27 1, Xk B27 2, Xk B26 0, Xk B26 1, Xk B26 2, HS6_, HS7_⟩ (fun hHeld => ?_)
  clear hK K
  refine Xno ?_
  refine Pu 16 35 17 131071 ?_
  refine Dn ?_
  go_upto_if 35 with (fail)
  have H := HC16.out
  clear HC16
  by_cases c20 : t31 = true
  ·subst c20
   try rw [if_pos rfl] at H
   obtain ⟨c21, H⟩ := Xif H
   have LMc21 := Am c21
   clear c21
   obtain ⟨y33, hy33⟩ : ∃ y_ : List Int, y_ = (x7_1 ++ [rd t24 x9_1]) := ⟨_, rfl⟩
   replace H : (spec_l07Conflicts.l0 k1 l1 y33 t24 (wrap64 (x9_1 + 1)) a0_0 a0_1 l0_2 a2_0 a2_1 a2_2) = some r := by first | (rw [hy33]; with_reducible exact H) | (have H2_ := (Option.bind_some _ _).symm.trans H; rw [hy33]; with_reducible exact H2_) | (have H2_ := (Option.bind_some _ _).symm.trans H; with_reducible exact H2_) | with_reducible exact H | (rw [hy33]; exact H) | exact H
   have Ny33 := Am hy33
   clear hy33
   have H' := Am H
   clear H
   have p34 : 0 ≤ (x9_1 : Int) := Xo
   have q34 : x9_1 < (t24.length : Int) := Xo
   obtain ⟨ad34, e34, hx34_0⟩ := Kd.at_int (Kd.R_reads' O_8.out).2.2 x9_1 p34 q34
   obtain rfl : ad30 = ad34 := (by injection e34)
   replace p34 := eq_true p34
   replace q34 := eq_true q34
   go_wp2_with (first | ((with_reducible refine gate_builtin (b := .append) (xs := #[.tmp 36, .tmp 41]) rfl ?_); at_builtin; refine Kd.R_append (Kd.int .i64) (w0 := w) w.heap.size rfl (.tmp 36) (.tmp 41) 30 3 (.int .i64 0) 8 rfl Tryz.underlying30 info3 rfl (by decide) (by omega) u7 x7_1 (rd t24 x9_1) [.int .i64 (rd t24 x9_1)] (fun k_ => some k_ ≠ (.slice (some ad30) t24.length co17 : Value).ownBlock) (fun _ => False) rfl rfl ?aP (fun _ hk => hk.elim) ?aF ?aO ?aB ?aS ?aL ?_; (case aP => exact rfl); (case aB => exact Xi); (case aF => exact (fun k_ hk => Kd.fresh' (Kd.R_lt (Xq O_8)) k_ hk)); (case aO => exact (Xq O_7)); (case aS => exact (below_size Xi)); (case aL => have := LMc21.out; omega); intro v354 w22 ho hb hg hat; rw [← Ny33.out] at ho; replace O_8 := Am (Kd.R_after (ok := (fun _ => True)) (by (with_reducible repeat (first | apply Kd.R_alloc | apply Kd.R_drewN | apply Kd.R_drew)); exact Kd.R_mono O_8.out (fun _ hk => ⟨trivial, hk⟩)) hg hat); replace B26 := Am (blk_grown (g := gb26) (o := .cells #[.int .i64 a0_0, .int .i64 a0_1, .slice A0_2 l0_2.length c0_2] 35 (0, 0)) (Xq' B26) hg (Kd.R_ne O_7.out B26.out (by decide))); replace B27 := Am (blk_grown (g := gb27) (o := .cells #[.int .i64 a2_0, .int .i64 a2_1, .int .i64 a2_2] 39 (0, 0)) (Xq' B27) hg (Kd.R_ne O_7.out B27.out (by decide))); replace HB := Am (hb); have HO36 := Am (ho); clear O_7; clear ho hb hg hat))
   go_roundg k1
   case measure => have := HK1.out; omega
   case rel => exact ⟨(y33), (wrap64 (x9_1 + 1)), Xr, H', Xk1, (Xp' HO36), ⟨by (with_reducible repeat (first | apply Kd.R_alloc | apply Kd.R_drewN | apply Kd.R_drew)); exact Kd.R_mono O_8.out (fun _ hk => hk.2)⟩, (Xp B26), (Xp B27), ⟨Xi⟩⟩
  replace c20 := Xbf c20
  subst c20
  try rw [if_neg Xft] at H
  have H' := Am H
  clear H
  go_wp2
  go_roundg k1
  case measure => have := HK1.out; omega
  case rel => exact ⟨(x7_1), (wrap64 (x9_1 + 1)), Xr, H', Xk1, (Xp' O_7), (Xp' O_8), (Xp B26), (Xp B27), ⟨Xi⟩⟩
 obtain rfl := Xsi H
 obtain ⟨Ao23, co23, eo23⟩ := Kd.R_slice O_8.out
 subst eo23
 go_wp2
 go_ret
 exact ⟨_, Xe, by (with_reducible repeat (first | apply Kd.R_alloc | apply Kd.R_drewN | apply Kd.R_drew)); exact Kd.R_mono O_7.out (fun _ hk => trivial), Xi⟩
mutual
def spec_l08Rival.l0 : Nat → List Int → List Int → Int → Int → Int → List (S113) → List (S39) → List (S39) → Int → Int → Int → Int → Int → Int → Option (Bool)
 | 0, _, _, _, _, _, _, _, _, _, _, _, _, _, _ => none
 | k + 1, x9, x10, x11, x357000, x357001, x357002, x358000, x358001, x359000, x359001, x359002, x360000, x360001, x360002 => if x11 < (x9.length : Int) then (if x11 < (x10.length : Int) then (if 0 ≤ x11 then (spec_l08Rival.j1 k x9 x10 x11 ((rd x9 x11) == (rd x10 x11)) x357000 x357001 x357002 x358000 x358001 x359000 x359001 x359002 x360000 x360001 x360002) else (none)) else (spec_l08Rival.j1 k x9 x10 x11 false x357000 x357001 x357002 x358000 x358001 x359000 x359001 x359002 x360000 x360001 x360002)) else (spec_l08Rival.j1 k x9 x10 x11 false x357000 x357001 x357002 x358000 x358001 x359000 x359001 x359002 x360000 x360001 x360002)
def spec_l08Rival.j1 : Nat → List Int → List Int → Int → Bool → Int → Int → List (S113) → List (S39) → List (S39) → Int → Int → Int → Int → Int → Int → Option (Bool)
 | 0, _, _, _, _, _, _, _, _, _, _, _, _, _, _, _ => none
 | k + 1, x9, x10, x11, x42, x357000, x357001, x357002, x358000, x358001, x359000, x359001, x359002, x360000, x360001, x360002 => if x42 = true then (if 0 ≤ x11 then (if x11 < (x9.length : Int) then ((spec_l07At.f k x357000 x357001 x357002 x358000 x359000 (rd x9 x11)).bind fun t12 => ((spec_l07Need.f x359000 x359001 x359002 (rd x9 x11)).bind fun t13 => ((spec_l07Join.f k t12 t13).bind fun t14 => ((spec_l07At.f k x357000 x357001 x357002 x358000 x360000 (rd x9 x11)).bind fun t15 => ((spec_l07Need.f x360000 x360001 x360002 (rd x9 x11)).bind fun t16 => ((spec_l07Join.f k t15 t16).bind fun t17 => ((spec_l07Fits.f k t14 t17).bind fun t18 => (if t18 = true then (spec_l08Rival.l0 k x9 x10 (wrap64 (x11 + 1)) x357000 x357001 x357002 x358000 x358001 x359000 x359001 x359002 x360000 x360001 x360002) else (some true))))))))) else (none)) else (none)) else (some false)
end
def spec_l08Rival.f (k : Nat) (a0_0 : Int) (a0_1 : Int) (l0_2 : List (S113)) (l1_0 : List (S39)) (l1_1 : List (S39)) (a2_0 : Int) (a2_1 : Int) (a2_2 : Int) (a3_0 : Int) (a3_1 : Int) (a3_2 : Int) : Option (Bool) := (spec_l02Path.f k a0_0 a0_1 l0_2 a2_1).bind fun t10 => ((spec_l02Path.f k a0_0 a0_1 l0_2 a3_1).bind fun t11 => (spec_l08Rival.l0 k t10 t11 0 a0_0 a0_1 l0_2 l1_0 l1_1 a2_0 a2_1 a2_2 a3_0 a3_1 a3_2))
def spec_l08Rival.T4 : Bool × List (List Nat × List Nat) := (true, [([], []), ([], []), ([1], [1]), ([0, 2], [0, 2]), ([3], [3]), ([4], [4]), ([4], [4]), ([6, 4], [4, 6]), ([5, 7, 4], [4, 5, 7]), ([4, 8], [4, 8]), ([9, 4], [9]), ([10], [10]), ([10], [10]), ([11, 12, 10], [10, 11, 12]), ([13, 10], [10, 13]), ([10], [10]), ([10], [10]), ([15, 16, 10], [10, 15, 16]), ([17, 10], [10, 17]), ([14, 18, 10], [10, 14, 18]), ([10, 19], [10, 19])])
def spec_l08Rival.B4 : List Nat := [0, 0, 2, 7, 15, 31, 31, 95, 255, 511, 1023, 2047, 2047, 8191, 16383, 2047, 2047, 100351, 231423, 524287, 1048575]
theorem spec_l08Rival.tab4 : rtab .any (opsOf Tryz.f103 4) = spec_l08Rival.T4 := by kernel_rfl
theorem spec_l08Rival.bits4 : waitsOk spec_l08Rival.T4.2 spec_l08Rival.B4 = true := by kernel_rfl
def spec_l08Rival.T6 : Bool × List (List Nat × List Nat) := (true, [([], []), ([], []), ([1], [1]), ([], []), ([3], [3]), ([], []), ([], []), ([5, 6], [5, 6]), ([7], [7]), ([0, 2, 4, 8], [0, 2, 4, 8]), ([], []), ([], []), ([], []), ([11, 12], [11, 12]), ([13], [13]), ([10, 14, 9], [10, 14]), ([9, 15, 15], [9, 15]), ([16, 16, 0, 1, 2, 3, 4, 5, 6, 7, 8, 9, 10, 11, 12, 13, 14, 15, 16], [16])])
def spec_l08Rival.B6 : List Nat := [0, 0, 2, 0, 8, 0, 0, 96, 224, 511, 0, 0, 0, 6144, 14336, 32767, 65535, 131071]
theorem spec_l08Rival.tab6 : rtab .any (opsOf Tryz.f103 6) = spec_l08Rival.T6 := by kernel_rfl
theorem spec_l08Rival.bits6 : waitsOk spec_l08Rival.T6.2 spec_l08Rival.B6 = true := by kernel_rfl
def spec_l08Rival.T7 : Bool × List (List Nat × List Nat) := (true, [([], []), ([], []), ([1], [1]), ([], []), ([3], [3]), ([], []), ([], []), ([5, 6], [5, 6]), ([7], [7]), ([0, 2, 4, 8], [0, 2, 4, 8]), ([], []), ([], []), ([], []), ([11, 12], [11, 12]), ([13], [13]), ([10, 14, 9], [10, 14]), ([9, 15, 15], [9, 15]), ([16, 16, 0, 1, 2, 3, 4, 5, 6, 7, 8, 9, 10, 11, 12, 13, 14, 15, 16], [16])])
def spec_l08Rival.B7 : List Nat := [0, 0, 2, 0, 8, 0, 0, 96, 224, 511, 0, 0, 0, 6144, 14336, 32767, 65535, 131071]
theorem spec_l08Rival.tab7 : rtab .any (opsOf Tryz.f103 7) = spec_l08Rival.T7 := by kernel_rfl
theorem spec_l08Rival.bits7 : waitsOk spec_l08Rival.T7.2 spec_l08Rival.B7 = true := by kernel_rfl
theorem spec_l08Rival.calls (k : Nat) (a0_0 : Int) (a0_1 : Int) (A0_2 : Option Addr) (c0_2 : Nat) (l0_2 : List (S113)) (A1_0 : Option Addr) (c1_0 : Nat) (l1_0 : List (S39)) (A1_1 : Option Addr) (c1_1 : Nat) (l1_1 : List (S39)) (a2_0 : Int) (a2_1 : Int) (a2_2 : Int) (a3_0 : Int) (a3_1 : Int) (a3_2 : Int) (r : Bool) (w : World) (hr0_2 : Kd.C k113 w A0_2 l0_2.length l0_2) (hc0_2 : l0_2.length ≤ c0_2) (hr1_0 : Kd.C k39 w A1_0 l1_0.length l1_0) (hc1_0 : l1_0.length ≤ c1_0) (hr1_1 : Kd.C k39 w A1_1 l1_1.length l1_1) (hc1_1 : l1_1.length ≤ c1_1) (h : spec_l08Rival.f k a0_0 a0_1 l0_2 l1_0 l1_1 a2_0 a2_1 a2_2 a3_0 a3_1 a3_2 = some r) :
  Calls Tryz.prog 103 #[.agg #[.int .i64 a0_0, .int .i64 a0_1, .slice A0_2 l0_2.length c0_2], .agg #[.slice A1_0 l1_0.length c1_0, .slice A1_1 l1_1.length c1_1], .agg #[.int .i64 a2_0, .int .i64 a2_1, .int .i64 a2_2], .agg #[.int .i64 a3_0, .int .i64 a3_1, .int .i64 a3_2]] w fun e w' => e = .returned (.bool r) ∧ Below w.heap.size w w' := by
 have hu35 := Tryz.underlying35
 have hu53 := Tryz.underlying53
 have hu39 := Tryz.underlying39
 have HR0_2 := Am hr0_2
 have HC0_2 := Am hc0_2
 clear hr0_2 hc0_2
 have HR1_0 := Am hr1_0
 have HC1_0 := Am hc1_0
 clear hr1_0 hc1_0
 have HR1_1 := Am hr1_1
 have HC1_1 := Am hc1_1
 clear hr1_1 hc1_1
 have HB := Am (Below.refl w.heap.size w)
 have H : ((spec_l02Path.f k a0_0 a0_1 l0_2 a2_1).bind fun t57 => ((spec_l02Path.f k a0_0 a0_1 l0_2 a3_1).bind fun t58 => (spec_l08Rival.l0 k t57 t58 0 a0_0 a0_1 l0_2 l1_0 l1_1 a2_0 a2_1 a2_2 a3_0 a3_1 a3_2))) = some r := h
 clear h
 obtain ⟨t57, A5, H⟩ := Xbi H
 try dsimp only at H
 obtain ⟨t58, A6, H⟩ := Xbi H
 try dsimp only at H
 have H' := Am H
 clear H
 go_enter Tryz.func103, Tryz.ntmps103
 go_wp2_with (first | ((with_reducible refine gate_dst (N := 4) rfl ?_); (try (refine gate_guard (by rfl) ?_; dsimp only)); refine Xbx 4 #[.int .i64 a0_0, .int .i64 a0_1, .slice A0_2 l0_2.length c0_2] 35 ?_; intro gb59 hg w7 B59 GE59 hb; replace HB := Xhb hb; clear hb hg) | ((with_reducible refine gate_dst (N := 5) rfl ?_); (try (refine gate_guard (by rfl) ?_; dsimp only)); refine Xbx 5 #[.slice A1_0 l1_0.length c1_0, .slice A1_1 l1_1.length c1_1] 53 ?_; intro gb60 hg w8 B60 GE60 hb; replace HB := Xhb hb; have NB59_60 := Xnb hg B59; have NB60_59 := Xns NB59_60; replace B59 := Xbb B59 hb; clear hb hg) | ((with_reducible refine gate_dst (N := 6) rfl ?_); (try (refine gate_guard (by rfl) ?_; dsimp only)); refine Xbx 6 #[.int .i64 a2_0, .int .i64 a2_1, .int .i64 a2_2] 39 ?_; intro gb61 hg w9 B61 GE61 hb; replace HB := Xhb hb; have NB59_61 := Xnb hg B59; have NB61_59 := Xns NB59_61; replace B59 := Xbb B59 hb; have NB60_61 := Xnb hg B60; have NB61_60 := Xns NB60_61; replace B60 := Xbb B60 hb; clear hb hg) | ((with_reducible refine gate_dst (N := 7) rfl ?_); (try (refine gate_guard (by rfl) ?_; dsimp only)); refine Xbx 7 #[.int .i64 a3_0, .int .i64 a3_1, .int .i64 a3_2] 39 ?_; intro gb62 hg w10 B62 GE62 hb; replace HB := Xhb hb; have NB59_62 := Xnb hg B59; have NB62_59 := Xns NB59_62; replace B59 := Xbb B59 hb; have NB60_62 := Xnb hg B60; have NB62_60 := Xns NB60_62; replace B60 := Xbb B60 hb; have NB61_62 := Xnb hg B61; have NB62_61 := Xns NB61_62; replace B61 := Xbb B61 hb; clear hb hg; have hnb11 := NB59_60.out; have hnc11 := NB60_59.out; have hnb12 := NB59_61.out; have hnc12 := NB61_59.out; have hnb13 := NB59_62.out; have hnc13 := NB62_59.out; obtain ⟨Z14_0, Z14_1, Z14_2⟩ := Xc3 B59; have hnb15 := NB61_60.out; have hnc15 := NB60_61.out; have hnb16 := NB61_62.out; have hnc16 := NB62_61.out; obtain ⟨Z17_0, Z17_1, Z17_2⟩ := Xc3 B61) | ((with_reducible refine gate_callee (f := 134) rfl ?_); refine Xgo 17 Tryz.func134 #[.agg #[.int .i64 a0_0, .int .i64 a0_1, .slice A0_2 l0_2.length c0_2], .int .i64 a2_1] ?_; (with_reducible refine (spec_l02Path.calls k a0_0 a0_1 _ _ l0_2 a2_1 t57 _ ?s1 ?s2 A5.out).mono ?_); (case s1 => exact Xc HR0_2); (case s2 => exact HC0_2.out); rintro e w18 ⟨v361, rfl, ho0, hb⟩; refine ⟨_, rfl, ?_⟩; have HO63 := Am (Kd.R_lower ho0 (below_size Xi)); replace B59 := Xbb B59 hb; replace B60 := Xbb B60 hb; replace B61 := Xbb B61 hb; replace B62 := Xbb B62 hb; replace HB := Xhb hb; clear hb; (try clear ho0); obtain ⟨Z19_0, Z19_1, Z19_2⟩ := Xc3 B59; have hnb20 := NB62_60.out; have hnc20 := NB60_62.out; obtain ⟨Z21_0, Z21_1, Z21_2⟩ := Xc3 B62) | ((with_reducible refine gate_callee (f := 134) rfl ?_); refine Xgo 21 Tryz.func134 #[.agg #[.int .i64 a0_0, .int .i64 a0_1, .slice A0_2 l0_2.length c0_2], .int .i64 a3_1] ?_; (with_reducible refine (spec_l02Path.calls k a0_0 a0_1 _ _ l0_2 a3_1 t58 _ ?s1 ?s2 A6.out).mono ?_); (case s1 => exact Xc HR0_2); (case s2 => exact HC0_2.out); rintro e w22 ⟨v364, rfl, ho0, hb⟩; refine ⟨_, rfl, ?_⟩; have HO65 := Am (Kd.R_lower (Kd.R_new' ho0 (Kd.R_lt (Xq HO63))) (below_size Xi)); replace HO63 := Am (Kd.R_elder' (Xq HO63) (Kd.R_base ho0) hb); replace B59 := Xbb B59 hb; replace B60 := Xbb B60 hb; replace B61 := Xbb B61 hb; replace B62 := Xbb B62 hb; replace HB := Xhb hb; clear hb; (try clear ho0)))
 go_loopg [11] k (fun kq v11 w' => ∃ (x11_1 : Int), v11 = .int .i64 x11_1 ∧ Aside0 (spec_l08Rival.l0 kq t57 t58 x11_1 a0_0 a0_1 l0_2 l1_0 l1_1 a2_0 a2_1 a2_2 a3_0 a3_1 a3_2 = some r) ∧ Aside0 (kq ≤ k) ∧ Aside0 (Kd.R (Kd.int .i64) 3 w' w.heap.size (fun k_ => some k_ ≠ (v364 : Value).ownBlock) v361 t57) ∧ Aside0 (Kd.R (Kd.int .i64) 3 w' w.heap.size (fun k_ => some k_ ≠ (v361 : Value).ownBlock) v364 t58) ∧ Aside0 (w'.heap[gb59]? = some (.cells #[.int .i64 a0_0, .int .i64 a0_1, (.slice A0_2 l0_2.length c0_2)] 35 (0, 0))) ∧ Aside0 (w'.heap[gb60]? = some (.cells #[(.slice A1_0 l1_0.length c1_0), (.slice A1_1 l1_1.length c1_1)] 53 (0, 0))) ∧ Aside0 (w'.heap[gb61]? = some (.cells #[.int .i64 a2_0, .int .i64 a2_1, .int .i64 a2_2] 39 (0, 0))) ∧ Aside0 (w'.heap[gb62]? = some (.cells #[.int .i64 a3_0, .int .i64 a3_1, .int .i64 a3_2] 39 (0, 0))) ∧ Aside0 (Below w.heap.size w w'))
 case atStart => exact ⟨(0), Xr, H', Xkr, ⟨by (with_reducible repeat (first | apply Kd.R_alloc | apply Kd.R_drewN | apply Kd.R_drew)); exact Kd.R_mono HO63.out (fun _ hk => hk.2)⟩, ⟨by (with_reducible repeat (first | apply Kd.R_alloc | apply Kd.R_drewN | apply Kd.R_drew)); exact Kd.R_mono HO65.out (fun _ hk => hk.2)⟩, B59, B60, B61, B62, ⟨Xi⟩⟩
 clear H'
 (try clear Z14_0); (try clear Z14_1); (try clear Z14_2); (try clear Z17_0); (try clear Z17_1); (try clear Z17_2); (try clear Z19_0); (try clear Z19_1); (try clear Z19_2); (try clear Z21_0); (try clear Z21_1); (try clear Z21_2)
 obtain ⟨x11_1, rfl, HA, HK1, O_9, O_10, B59, B60, B61, B62, HB⟩ := hrel
 cases gk with | zero => cases HA.out | succ k1 => ?_
 have H := HA.out
 clear HA
 simp only [spec_l08Rival.l0] at H
 have HC23 := Am H
 clear H
 go_upto_region 4 with (fail)
 go_cut [42] (fun v42 wc => ∃ (kq : Nat) (x42_22 : Bool), v42 = .bool x42_22 ∧ Aside0 (spec_l08Rival.j1 kq t57 t58 x11_1 x42_22 a0_0 a0_1 l0_2 l1_0 l1_1 a2_0 a2_1 a2_2 a3_0 a3_1 a3_2 = some r) ∧ Aside0 (kq ≤ k1) ∧ Aside0 (Kd.R (Kd.int .i64) 3 wc w.heap.size (fun k_ => some k_ ≠ (v364 : Value).ownBlock) v361 t57) ∧ Aside0 (Kd.R (Kd.int .i64) 3 wc w.heap.size (fun k_ => some k_ ≠ (v361 : Value).ownBlock) v364 t58) ∧ Aside0 (wc.heap[gb59]? = some (.cells #[.int .i64 a0_0, .int .i64 a0_1, (.slice A0_2 l0_2.length c0_2)] 35 (0, 0))) ∧ Aside0 (wc.heap[gb60]? = some (.cells #[(.slice A1_0 l1_0.length c1_0), (.slice A1_1 l1_1.length c1_1)] 53 (0, 0))) ∧ Aside0 (wc.heap[gb61]? = some (.cells #[.int .i64 a2_0, .int .i64 a2_1, .int .i64 a2_2] 39 (0, 0))) ∧ Aside0 (wc.heap[gb62]? = some (.cells #[.int .i64 a3_0, .int .i64 a3_1, .int .i64 a3_2] 39 (0, 0))) ∧ Aside0 (Below w.heap.size w wc))
 case first =>
  have H := HC23.out
  clear HC23
  obtain ⟨c24b0, H⟩ | ⟨c24b0, H⟩ := Xit H
  ·(first | rw [c24b0] | (simp only [i64_w, i32_w]; rw [c24b0]) | skip)
   obtain ⟨c25b0, H⟩ | ⟨c25b0, H⟩ := Xit H
   ·obtain ⟨c26b0, H⟩ := Xid H
    have H' := Am H
    clear H
    try go_wp2_with (fail)
    replace O_9 := Am (Kd.R_drew O_9.out)
    replace O_10 := Am (Kd.R_drew O_10.out)
    replace B59 := Xbd B59
    replace B60 := Xbd B60
    replace B61 := Xbd B61
    replace B62 := Xbd B62
    replace HB := Xhd HB
    obtain ⟨Ao28, co28, eo28⟩ := Kd.R_slice O_9.out
    (first | subst eo28 | (injection eo28 with f1_ f2_ f3_; have f4_ := f1_.symm; have f5_ := f3_.symm; clear f1_ f2_ f3_; subst f4_; subst f5_))
    obtain ⟨Ao29, co29, eo29⟩ := Kd.R_slice O_10.out
    (first | subst eo29 | (injection eo29 with f1_ f2_ f3_; have f4_ := f1_.symm; have f5_ := f3_.symm; clear f1_ f2_ f3_; subst f4_; subst f5_))
    have p66 : 0 ≤ (x11_1 : Int) := Xo
    have q66 : x11_1 < (t57.length : Int) := Xo
    obtain ⟨ad66, e66, hx66_0⟩ := Kd.at_int (Kd.R_reads' O_9.out).2.2 x11_1 p66 q66
    cases e66
    replace p66 := eq_true p66
    replace q66 := eq_true q66
    have p67 : 0 ≤ (x11_1 : Int) := Xo
    have q67 : x11_1 < (t58.length : Int) := Xo
    obtain ⟨ad67, e67, hx67_0⟩ := Kd.at_int (Kd.R_reads' O_10.out).2.2 x11_1 p67 q67
    cases e67
    replace p67 := eq_true p67
    replace q67 := eq_true q67
    refine Sx 21 (fun w' => w'.cell? (ad66.add (x11_1).toNat) = some (.int .i64 (rd t57 x11_1)) ∧ w'.cell? (ad67.add (x11_1).toNat) = some (.int .i64 (rd t58 x11_1))) ⟨hx66_0, hx67_0⟩ (fun hHeld => ?_); refine with_tabW spec_l08Rival.tab4 spec_l08Rival.bits4 (fun HT_ HW_ => ?_)
    generalize wr.drew = w27 at O_9 O_10 B59 B60 B61 B62 HB hx66_0 hx67_0 hHeld ⊢
    refine Pu 0 22 21 1 ?_
    refine Pu 1 23 21 3 ?_
    refine Pu 2 24 21 7 ?_
    refine Pu 3 25 21 15 ?_
    refine Pu 4 26 21 31 ?_
    refine Pu 5 27 21 63 ?_
    refine Pu 6 28 21 127 ?_
    refine Pu 7 29 21 255 ?_
    refine Pu 8 30 21 511 ?_
    refine Pu 9 31 21 1023 ?_
    refine Pu 10 32 21 2047 ?_
    refine Pu 11 33 21 4095 ?_
    refine Pu 12 34 21 8191 ?_
    refine Pu 13 35 21 16383 ?_
    refine Pu 15 37 21 49151 ?_
    refine Pu 16 38 21 114687 ?_
    refine Pu 17 39 21 245759 ?_
    refine Ta 14 36 21 262143 ?_
    refine Ta 18 40 21 524287 ?_
    refine Pu 19 41 21 1048575 ?_
    refine Pu 20 42 21 2097151 ?_
    refine Dn ?_
    try go_wp2_with (fail)
    go_meet
    case rel => exact ⟨_, (((rd t57 x11_1) == (rd t58 x11_1))), Xr, H', ⟨by have := HK1.out; first | omega | exact Nat.le_refl _⟩, (Xp' O_9), (Xp' O_10), B59, B60, B61, B62, ⟨Xi⟩⟩
   have H' := Am H
   clear H
   try go_wp2_with (fail)
   replace O_9 := Am (Kd.R_drew O_9.out)
   replace O_10 := Am (Kd.R_drew O_10.out)
   replace B59 := Xbd B59
   replace B60 := Xbd B60
   replace B61 := Xbd B61
   replace B62 := Xbd B62
   replace HB := Xhd HB
   obtain ⟨Ao31, co31, eo31⟩ := Kd.R_slice O_9.out
   (first | subst eo31 | (injection eo31 with f1_ f2_ f3_; have f4_ := f1_.symm; have f5_ := f3_.symm; clear f1_ f2_ f3_; subst f4_; subst f5_))
   obtain ⟨Ao32, co32, eo32⟩ := Kd.R_slice O_10.out
   (first | subst eo32 | (injection eo32 with f1_ f2_ f3_; have f4_ := f1_.symm; have f5_ := f3_.symm; clear f1_ f2_ f3_; subst f4_; subst f5_))
   refine start_ (n := 21) (S := fun w' => True) (ds := []) #[false, false, false, false, false, false, false, false, false, false, false, false, false, false, false, false, false, false, false, false, false] (by kernel_rfl) rfl rfl trivial (fun hHeld => ?_); refine with_tabW spec_l08Rival.tab4 spec_l08Rival.bits4 (fun HT_ HW_ => ?_)
   generalize wr.drew = w30 at O_9 O_10 B59 B60 B61 B62 HB hHeld ⊢
   refine Pu 0 22 21 1 ?_
   refine Pu 1 23 21 3 ?_
   refine Pu 2 24 21 7 ?_
   refine Pu 3 25 21 15 ?_
   refine Pu 4 26 21 31 ?_
   refine Pu 5 27 21 63 ?_
   refine Pu 6 28 21 127 ?_
   refine Pu 7 29 21 255 ?_
   refine Pu 8 30 21 511 ?_
   refine Pu 9 31 21 1023 ?_
   refine Pu 10 32 21 2047 ?_
   refine Pn 11 33 21 4095 ?_
   refine Pn 12 34 21 8191 ?_
   refine Pn 13 35 21 16383 ?_
   refine Pn 14 36 21 32767 ?_
   refine Pn 15 37 21 65535 ?_
   refine Pn 16 38 21 131071 ?_
   refine Pn 17 39 21 262143 ?_
   refine Pn 18 40 21 524287 ?_
   refine Pn 19 41 21 1048575 ?_
   refine Pu 20 42 21 2097151 ?_
   refine Dn ?_
   try go_wp2_with (fail)
   go_meet
   case rel => exact ⟨_, (false), Xr, H', ⟨by have := HK1.out; first | omega | exact Nat.le_refl _⟩, (Xp' O_9), (Xp' O_10), B59, B60, B61, B62, ⟨Xi⟩⟩
  (first | rw [c24b0] | (simp only [i64_w, i32_w]; rw [c24b0]) | skip)
  have H' := Am H
  clear H
  try go_wp2_with (fail)
  replace O_9 := Am (Kd.R_drew O_9.out)
  replace O_10 := Am (Kd.R_drew O_10.out)
  replace B59 := Xbd B59
  replace B60 := Xbd B60
  replace B61 := Xbd B61
  replace B62 := Xbd B62
  replace HB := Xhd HB
  obtain ⟨Ao34, co34, eo34⟩ := Kd.R_slice O_9.out
  (first | subst eo34 | (injection eo34 with f1_ f2_ f3_; have f4_ := f1_.symm; have f5_ := f3_.symm; clear f1_ f2_ f3_; subst f4_; subst f5_))
  refine start_ (n := 21) (S := fun w' => True) (ds := []) #[false, false, false, false, false, false, false, false, false, false, false, false, false, false, false, false, false, false, false, false, false] (by kernel_rfl) rfl rfl trivial (fun hHeld => ?_); refine with_tabW spec_l08Rival.tab4 spec_l08Rival.bits4 (fun HT_ HW_ => ?_)
  generalize wr.drew = w33 at O_9 O_10 B59 B60 B61 B62 HB hHeld ⊢
  refine Pu 0 22 21 1 ?_
  refine Pu 1 23 21 3 ?_
  refine Pu 2 24 21 7 ?_
  refine Pu 3 25 21 15 ?_
  refine Pu 4 26 21 31 ?_
  refine Pn 5 27 21 63 ?_
  refine Pn 6 28 21 127 ?_
  refine Pn 7 29 21 255 ?_
  refine Pn 8 30 21 511 ?_
  refine Pu 9 31 21 1023 ?_
  refine Pu 10 32 21 2047 ?_
  refine Pn 11 33 21 4095 ?_
  refine Pn 12 34 21 8191 ?_
  refine Pn 13 35 21 16383 ?_
  refine Pn 14 36 21 32767 ?_
  refine Pn 15 37 21 65535 ?_
  refine Pn 16 38 21 131071 ?_
  refine Pn 17 39 21 262143 ?_
  refine Pn 18 40 21 524287 ?_
  refine Pn 19 41 21 1048575 ?_
  refine Pu 20 42 21 2097151 ?_
  refine Dn ?_
  try go_wp2_with (fail)
  go_meet
  case rel => exact ⟨_, (false), Xr, H', ⟨by have := HK1.out; first | omega | exact Nat.le_refl _⟩, (Xp' O_9), (Xp' O_10), B59, B60, B61, B62, ⟨Xi⟩⟩
 clear HC23
 (try clear Z14_0); (try clear Z14_1); (try clear Z14_2); (try clear Z17_0); (try clear Z17_1); (try clear Z17_2); (try clear Z19_0); (try clear Z19_1); (try clear Z19_2); (try clear Z21_0); (try clear Z21_1); (try clear Z21_2)
 obtain ⟨kq, x42_22, rfl, HA, HJ22, O_9, O_10, B59, B60, B61, B62, HB⟩ := hcut
 cases kq with | zero => cases HA.out | succ kj22 => ?_
 have H := HA.out
 clear HA
 simp only [spec_l08Rival.j1] at H
 by_cases c35 : x42_22 = true
 ·subst c35
  try rw [if_pos rfl] at H
  obtain ⟨c36b0, H⟩ := Xid H
  obtain ⟨c37b0, H⟩ := Xid H
  obtain ⟨t68, A38, H⟩ := Xbi H
  try dsimp only at H
  obtain ⟨t69, A39, H⟩ := Xbi H
  try dsimp only at H
  obtain ⟨t70, A40, H⟩ := Xbi H
  try dsimp only at H
  obtain ⟨t71, A41, H⟩ := Xbi H
  try dsimp only at H
  obtain ⟨t72, A42, H⟩ := Xbi H
  try dsimp only at H
  obtain ⟨t73, A43, H⟩ := Xbi H
  try dsimp only at H
  obtain ⟨t74, A44, H⟩ := Xbi H
  try dsimp only at H
  have HC45 := Am H
  clear H
  try go_wp2_with (fail)
  replace O_9 := Am (Kd.R_drew O_9.out)
  replace O_10 := Am (Kd.R_drew O_10.out)
  replace B59 := Xbd B59
  replace B60 := Xbd B60
  replace B61 := Xbd B61
  replace B62 := Xbd B62
  replace HB := Xhd HB
  obtain ⟨Ao47, co47, eo47⟩ := Kd.R_slice O_9.out
  (first | subst eo47 | (injection eo47 with f1_ f2_ f3_; have f4_ := f1_.symm; have f5_ := f3_.symm; clear f1_ f2_ f3_; subst f4_; subst f5_))
  have p75 : 0 ≤ (x11_1 : Int) := Xo
  have q75 : x11_1 < (t57.length : Int) := Xo
  obtain ⟨ad75, e75, hx75_0⟩ := Kd.at_int (Kd.R_reads' O_9.out).2.2 x11_1 p75 q75
  cases e75
  replace p75 := eq_true p75
  replace q75 := eq_true q75
  have p76 : 0 ≤ (x11_1 : Int) := Xo
  have q76 : x11_1 < (t57.length : Int) := Xo
  obtain ⟨ad76, e76, hx76_0⟩ := Kd.at_int (Kd.R_reads' O_9.out).2.2 x11_1 p76 q76
  obtain rfl : ad75 = ad76 := (by injection e76)
  replace p76 := eq_true p76
  replace q76 := eq_true q76
  refine Sx 18 (fun w' => w'.cell? ⟨gb59, 0, none⟩ = some (.int .i64 a0_0) ∧ w'.cell? ⟨gb59, 1, none⟩ = some (.int .i64 a0_1) ∧ w'.cell? ⟨gb59, 2, none⟩ = some (.slice A0_2 l0_2.length c0_2) ∧ w'.cell? ⟨gb60, 0, none⟩ = some (.slice A1_0 l1_0.length c1_0) ∧ w'.cell? ⟨gb60, 1, none⟩ = some (.slice A1_1 l1_1.length c1_1) ∧ w'.cell? ⟨gb61, 0, none⟩ = some (.int .i64 a2_0) ∧ w'.cell? ⟨gb61, 1, none⟩ = some (.int .i64 a2_1) ∧ w'.cell? ⟨gb61, 2, none⟩ = some (.int .i64 a2_2) ∧ w'.cell? (ad75.add (x11_1).toNat) = some (.int .i64 (rd t57 x11_1)) ∧ w'.cell? (ad75.add (x11_1).toNat) = some (.int .i64 (rd t57 x11_1))) ⟨Xk B59 0, Xk B59 1, Xk B59 2, Xk B60 0, Xk B60 1, Xk B61 0, Xk B61 1, Xk B61 2, hx75_0, hx76_0⟩ (fun hHeld => ?_); refine with_tabW spec_l08Rival.tab6 spec_l08Rival.bits6 (fun HT_ HW_ => ?_)
  generalize wc.drew = w46 at O_9 O_10 B59 B60 B61 B62 HB hx75_0 hx76_0 hHeld ⊢
  refine Pu 1 46 18 2 ?_
  refine Pu 3 48 18 10 ?_
  refine Pu 5 50 18 42 ?_
  refine Pu 6 51 18 106 ?_
  refine Pu 7 52 18 234 ?_
  refine Pu 11 56 18 2282 ?_
  refine Pu 12 57 18 6378 ?_
  refine Pu 13 58 18 14570 ?_
  refine Ta 0 45 18 14571 ?_
  refine Ta 2 47 18 14575 ?_
  refine Ta 4 49 18 14591 ?_
  refine Ta 8 53 18 14847 ?_
  refine Ta 10 55 18 15871 ?_
  refine Ta 14 59 18 32255 ?_
  refine On 9 54 18 32767 (fun K hK => ?_)
  refine Gs Tryz.func77 #[.agg #[.int .i64 a0_0, .int .i64 a0_1, .slice A0_2 l0_2.length c0_2], .slice A1_0 l1_0.length c1_0, .int .i64 a2_0, .int .i64 (rd t57 x11_1)] ?_
  with_reducible refine (spec_l07At.calls kj22 a0_0 a0_1 _ _ l0_2 _ _ l1_0 a2_0 (rd t57 x11_1) t68 _ ?s1 ?s2 ?s3 ?s4 A38.out).mono ?_
  (case s1 => exact Xc HR0_2)
  (case s2 => exact HC0_2.out)
  (case s3 => exact Xc HR1_0)
  (case s4 => exact HC1_0.out)
  rintro e w48 ⟨rfl, hb⟩
  have HS8_ := (hb.cell (World.block_lt_of_cell? _ _ (hHeld.2.2.2.2.2.2.2.2.1))).trans (hHeld.2.2.2.2.2.2.2.2.1)
  have HS9_ := (hb.cell (World.block_lt_of_cell? _ _ (hHeld.2.2.2.2.2.2.2.2.2))).trans (hHeld.2.2.2.2.2.2.2.2.2)
  refine ⟨_, rfl, ?_⟩
  replace O_9 := Am (Kd.R_below (Xq O_9) hb)
  replace O_10 := Am (Kd.R_below (Xq O_10) hb)
  replace B59 := Xbb B59 hb
  replace B60 := Xbb B60 hb
  replace B61 := Xbb B61 hb
  replace B62 := Xbb B62 hb
  replace HB := Xhb hb
  try clear hb
  try clear hb2
  try clear hk
  try clear hi
  refine hK.out _ _ ⟨Xk B59 0, Xk B59 1, Xk B59 2, Xk B60 0, Xk B60 1, Xk B61 0, Xk B61 1, Xk B61 2, HS8_, HS9_⟩ (fun hHeld => ?_)
  clear hK K
  refine Xno ?_
  refine On 15 60 18 65535 (fun K hK => ?_)
  refine Gs Tryz.func145 #[.agg #[.int .i64 a2_0, .int .i64 a2_1, .int .i64 a2_2], .int .i64 (rd t57 x11_1)] ?_
  with_reducible refine (spec_l07Need.calls a2_0 a2_1 a2_2 (rd t57 x11_1) t69 _ A39.out).mono ?_
  rintro e w49 ⟨rfl, hb⟩
  have HS8_ := (hb.cell (World.block_lt_of_cell? _ _ (hHeld.2.2.2.2.2.2.2.2.1))).trans (hHeld.2.2.2.2.2.2.2.2.1)
  have HS9_ := (hb.cell (World.block_lt_of_cell? _ _ (hHeld.2.2.2.2.2.2.2.2.2))).trans (hHeld.2.2.2.2.2.2.2.2.2)
  refine ⟨_, rfl, ?_⟩
  replace O_9 := Am (Kd.R_below (Xq O_9) hb)
  replace O_10 := Am (Kd.R_below (Xq O_10) hb)
  replace B59 := Xbb B59 hb
  replace B60 := Xbb B60 hb
  replace B61 := Xbb B61 hb
  replace B62 := Xbb B62 hb
  replace HB := Xhb hb
  try clear hb
  try clear hb2
  try clear hk
  try clear hi
  refine hK.out _ _ ⟨Xk B59 0, Xk B59 1, Xk B59 2, Xk B60 0, Xk B60 1, Xk B61 0, Xk B61 1, Xk B61 2, HS8_, HS9_⟩ (fun hHeld => ?_)
  clear hK K
  refine Xno ?_
  refine On 16 61 18 131071 (fun K hK => ?_)
  refine Gs Tryz.func133 #[.int .i64 t68, .int .i64 t69] ?_
  with_reducible refine (spec_l07Join.calls kj22 t68 t69 t70 _ A40.out).mono ?_
  rintro e w50 ⟨rfl, hb⟩
  have HS8_ := (hb.cell (World.block_lt_of_cell? _ _ (hHeld.2.2.2.2.2.2.2.2.1))).trans (hHeld.2.2.2.2.2.2.2.2.1)
  have HS9_ := (hb.cell (World.block_lt_of_cell? _ _ (hHeld.2.2.2.2.2.2.2.2.2))).trans (hHeld.2.2.2.2.2.2.2.2.2)
  refine ⟨_, rfl, ?_⟩
  replace O_9 := Am (Kd.R_below (Xq O_9) hb)
  replace O_10 := Am (Kd.R_below (Xq O_10) hb)
  replace B59 := Xbb B59 hb
  replace B60 := Xbb B60 hb
  replace B61 := Xbb B61 hb
  replace B62 := Xbb B62 hb
  replace HB := Xhb hb
  try clear hb
  try clear hb2
  try clear hk
  try clear hi
  refine hK.out _ _ ⟨Xk B59 0, Xk B59 1, Xk B59 2, Xk B60 0, Xk B60 1, Xk B61 0, Xk B61 1, Xk B61 2, HS8_, HS9_⟩ (fun hHeld => ?_)
  clear hK K
  refine Xno ?_
  refine Pu 17 12 18 262143 ?_
  refine Dn ?_
  try go_wp2_with (fail)
  replace O_9 := Am (Kd.R_drew O_9.out)
  replace O_10 := Am (Kd.R_drew O_10.out)
  replace B59 := Xbd B59
  replace B60 := Xbd B60
  replace B61 := Xbd B61
  replace B62 := Xbd B62
  replace HB := Xhd HB
  have p77 : 0 ≤ (x11_1 : Int) := Xo
  have q77 : x11_1 < (t57.length : Int) := Xo
  obtain ⟨ad77, e77, hx77_0⟩ := Kd.at_int (Kd.R_reads' O_9.out).2.2 x11_1 p77 q77
  obtain rfl : ad75 = ad77 := (by injection e77)
  replace p77 := eq_true p77
  replace q77 := eq_true q77
  have p78 : 0 ≤ (x11_1 : Int) := Xo
  have q78 : x11_1 < (t57.length : Int) := Xo
  obtain ⟨ad78, e78, hx78_0⟩ := Kd.at_int (Kd.R_reads' O_9.out).2.2 x11_1 p78 q78
  obtain rfl : ad75 = ad78 := (by injection e78)
  replace p78 := eq_true p78
  replace q78 := eq_true q78
  refine Sx 18 (fun w' => w'.cell? ⟨gb59, 0, none⟩ = some (.int .i64 a0_0) ∧ w'.cell? ⟨gb59, 1, none⟩ = some (.int .i64 a0_1) ∧ w'.cell? ⟨gb59, 2, none⟩ = some (.slice A0_2 l0_2.length c0_2) ∧ w'.cell? ⟨gb60, 0, none⟩ = some (.slice A1_0 l1_0.length c1_0) ∧ w'.cell? ⟨gb60, 1, none⟩ = some (.slice A1_1 l1_1.length c1_1) ∧ w'.cell? ⟨gb62, 0, none⟩ = some (.int .i64 a3_0) ∧ w'.cell? ⟨gb62, 1, none⟩ = some (.int .i64 a3_1) ∧ w'.cell? ⟨gb62, 2, none⟩ = some (.int .i64 a3_2) ∧ w'.cell? (ad75.add (x11_1).toNat) = some (.int .i64 (rd t57 x11_1)) ∧ w'.cell? (ad75.add (x11_1).toNat) = some (.int .i64 (rd t57 x11_1))) ⟨Xk B59 0, Xk B59 1, Xk B59 2, Xk B60 0, Xk B60 1, Xk B62 0, Xk B62 1, Xk B62 2, hx77_0, hx78_0⟩ (fun hHeld => ?_); refine with_tabW spec_l08Rival.tab7 spec_l08Rival.bits7 (fun HT_ HW_ => ?_)
  generalize w50.drew = w51 at O_9 O_10 B59 B60 B61 B62 HB hx77_0 hx78_0 hHeld ⊢
  refine Pu 1 63 18 2 ?_
  refine Pu 3 65 18 10 ?_
  refine Pu 5 67 18 42 ?_
  refine Pu 6 68 18 106 ?_
  refine Pu 7 69 18 234 ?_
  refine Pu 11 73 18 2282 ?_
  refine Pu 12 74 18 6378 ?_
  refine Pu 13 75 18 14570 ?_
  refine Ta 0 62 18 14571 ?_
  refine Ta 2 64 18 14575 ?_
  refine Ta 4 66 18 14591 ?_
  refine Ta 8 70 18 14847 ?_
  refine Ta 10 72 18 15871 ?_
  refine Ta 14 76 18 32255 ?_
  refine On 9 71 18 32767 (fun K hK => ?_)
  refine Gs Tryz.func77 #[.agg #[.int .i64 a0_0, .int .i64 a0_1, .slice A0_2 l0_2.length c0_2], .slice A1_0 l1_0.length c1_0, .int .i64 a3_0, .int .i64 (rd t57 x11_1)] ?_
  with_reducible refine (spec_l07At.calls kj22 a0_0 a0_1 _ _ l0_2 _ _ l1_0 a3_0 (rd t57 x11_1) t71 _ ?s1 ?s2 ?s3 ?s4 A41.out).mono ?_
  (case s1 => exact Xc HR0_2)
  (case s2 => exact HC0_2.out)
  (case s3 => exact Xc HR1_0)
  (case s4 => exact HC1_0.out)
  rintro e w52 ⟨rfl, hb⟩
  have HS8_ := (hb.cell (World.block_lt_of_cell? _ _ (hHeld.2.2.2.2.2.2.2.2.1))).trans (hHeld.2.2.2.2.2.2.2.2.1)
  have HS9_ := (hb.cell (World.block_lt_of_cell? _ _ (hHeld.2.2.2.2.2.2.2.2.2))).trans (hHeld.2.2.2.2.2.2.2.2.2)
  refine ⟨_, rfl, ?_⟩
  replace O_9 := Am (Kd.R_below (Xq O_9) hb)
  replace O_10 := Am (Kd.R_below (Xq O_10) hb)
  replace B59 := Xbb B59 hb
  replace B60 := Xbb B60 hb
  replace B61 := Xbb B61 hb
  replace B62 := Xbb B62 hb
  replace HB := Xhb hb
  try clear hb
  try clear hb2
  try clear hk
  try clear hi
  refine hK.out _ _ ⟨Xk B59 0, Xk B59 1, Xk B59 2, Xk B60 0, Xk B60 1, Xk B62 0, Xk B62 1, Xk B62 2, HS8_, HS9_⟩ (fun hHeld => ?_)
  clear hK K
  refine Xno ?_
  refine On 15 77 18 65535 (fun K hK => ?_)
  refine Gs Tryz.func145 #[.agg #[.int .i64 a3_0, .int .i64 a3_1, .int .i64 a3_2], .int .i64 (rd t57 x11_1)] ?_
  with_reducible refine (spec_l07Need.calls a3_0 a3_1 a3_2 (rd t57 x11_1) t72 _ A42.out).mono ?_
  rintro e w53 ⟨rfl, hb⟩
  have HS8_ := (hb.cell (World.block_lt_of_cell? _ _ (hHeld.2.2.2.2.2.2.2.2.1))).trans (hHeld.2.2.2.2.2.2.2.2.1)
  have HS9_ := (hb.cell (World.block_lt_of_cell? _ _ (hHeld.2.2.2.2.2.2.2.2.2))).trans (hHeld.2.2.2.2.2.2.2.2.2)
  refine ⟨_, rfl, ?_⟩
  replace O_9 := Am (Kd.R_below (Xq O_9) hb)
  replace O_10 := Am (Kd.R_below (Xq O_10) hb)
  replace B59 := Xbb B59 hb
  replace B60 := Xbb B60 hb
  replace B61 := Xbb B61 hb
  replace B62 := Xbb B62 hb
  replace HB := Xhb hb
  try clear hb
  try clear hb2
  try clear hk
  try clear hi
  refine hK.out _ _ ⟨Xk B59 0, Xk B59 1, Xk B59 2, Xk B60 0, Xk B60 1, Xk B62 0, Xk B62 1, Xk B62 2, HS8_, HS9_⟩ (fun hHeld => ?_)
  clear hK K
  refine Xno ?_
  refine On 16 78 18 131071 (fun K hK => ?_)
  refine Gs Tryz.func133 #[.int .i64 t71, .int .i64 t72] ?_
  with_reducible refine (spec_l07Join.calls kj22 t71 t72 t73 _ A43.out).mono ?_
  rintro e w54 ⟨rfl, hb⟩
  have HS8_ := (hb.cell (World.block_lt_of_cell? _ _ (hHeld.2.2.2.2.2.2.2.2.1))).trans (hHeld.2.2.2.2.2.2.2.2.1)
  have HS9_ := (hb.cell (World.block_lt_of_cell? _ _ (hHeld.2.2.2.2.2.2.2.2.2))).trans (hHeld.2.2.2.2.2.2.2.2.2)
  refine ⟨_, rfl, ?_⟩
  replace O_9 := Am (Kd.R_below (Xq O_9) hb)
  replace O_10 := Am (Kd.R_below (Xq O_10) hb)
  replace B59 := Xbb B59 hb
  replace B60 := Xbb B60 hb
  replace B61 := Xbb B61 hb
  replace B62 := Xbb B62 hb
  replace HB := Xhb hb
  try clear hb
  try clear hb2
  try clear hk
  try clear hi
  refine hK.out _ _ ⟨Xk B59 0, Xk B59 1, Xk B59 2, Xk B60 0, Xk B60 1, Xk B62 0, Xk B62 1, Xk B62 2, HS8_, HS9_⟩ (fun hHeld => ?_)
  clear hK K
  refine Xno ?_
  refine Pu 17 13 18 262143 ?_
  refine Dn ?_
  go_upto_if 82 with ((with_reducible refine gate_callee (f := 146) rfl ?_); refine Xgo 81 Tryz.func146 #[.int .i64 t70, .int .i64 t73] ?_; (with_reducible refine (spec_l07Fits.calls kj22 t70 t73 t74 _ A44.out).mono ?_); rintro e w55 ⟨rfl, hb⟩; refine ⟨_, rfl, ?_⟩; replace O_9 := Am (Kd.R_below (Xq O_9) hb); replace O_10 := Am (Kd.R_below (Xq O_10) hb); replace B59 := Xbb B59 hb; replace B60 := Xbb B60 hb; replace B61 := Xbb B61 hb; replace B62 := Xbb B62 hb; replace HB := Xhb hb; clear hb)
  have H := HC45.out
  clear HC45
  by_cases c56 : t74 = true
  ·subst c56
   try rw [if_pos rfl] at H
   have H' := Am H
   clear H
   go_wp2
   go_roundg kj22
   case measure => have := HK1.out; have := HJ22.out; omega
   case rel => exact ⟨(wrap64 (x11_1 + 1)), Xr, H', ⟨by have := HK1.out; have := HJ22.out; omega⟩, (Xp' O_9), (Xp' O_10), B59, B60, B61, B62, ⟨Xi⟩⟩
  replace c56 := Xbf c56
  subst c56
  try rw [if_neg Xft] at H
  obtain rfl := Xsi H
  go_wp2
  go_ret
  exact ⟨Xe, Xi⟩
 replace c35 := Xbf c35
 subst c35
 try rw [if_neg Xft] at H
 obtain rfl := Xsi H
 go_wp2
 go_ret
 exact ⟨Xe, Xi⟩
def spec_l08Blockers.l0 : Nat → Int → List Int → Int → Int → Int → List (S113) → List (S39) → List (S39) → Int → Int → Int → Option (List Int)
 | 0, _, _, _, _, _, _, _, _, _, _, _ => none
 | k + 1, x2, x8, x9, x380000, x380001, x380002, x381000, x381001, x383000, x383001, x383002 => if x9 < x2 then (if 0 ≤ x9 then (if x9 < (x381001.length : Int) then ((spec_l08Rival.f k x380000 x380001 x380002 x381000 x381001 x383000 x383001 x383002 ((rd_T39 x381001 x9).f0) ((rd_T39 x381001 x9).f1) ((rd_T39 x381001 x9).f2)).bind fun t10 => (if t10 = true then ((spec_l02Has.f k x8 ((rd_T39 x381001 x9).f0)).bind fun t11 => (if t11 = true then (spec_l08Blockers.l0 k x2 x8 (wrap64 (x9 + 1)) x380000 x380001 x380002 x381000 x381001 x383000 x383001 x383002) else ((spec_l08Rise.f k x8 ((rd_T39 x381001 x9).f0)).bind fun t12 => (spec_l08Blockers.l0 k x2 t12 (wrap64 (x9 + 1)) x380000 x380001 x380002 x381000 x381001 x383000 x383001 x383002)))) else (spec_l08Blockers.l0 k x2 x8 (wrap64 (x9 + 1)) x380000 x380001 x380002 x381000 x381001 x383000 x383001 x383002))) else (none)) else (none)) else (some x8)
def spec_l08Blockers.f (k : Nat) (a0_0 : Int) (a0_1 : Int) (l0_2 : List (S113)) (l1_0 : List (S39)) (l1_1 : List (S39)) (a2 : Int) : Option (List Int) := if 0 ≤ a2 then (if a2 < (l1_1.length : Int) then ((spec_l07Conflicts.f k a0_0 a0_1 l0_2 l1_0 ((rd_T39 l1_1 a2).f0) ((rd_T39 l1_1 a2).f1) ((rd_T39 l1_1 a2).f2)).bind fun t10 => (spec_l08Blockers.l0 k a2 t10 0 a0_0 a0_1 l0_2 l1_0 l1_1 ((rd_T39 l1_1 a2).f0) ((rd_T39 l1_1 a2).f1) ((rd_T39 l1_1 a2).f2))) else (none)) else (none)
def spec_l08Blockers.T6 : Bool × List (List Nat × List Nat) := (true, [([], []), ([], []), ([], []), ([], []), ([3], [3]), ([], []), ([4, 5], [4, 5]), ([6], [6]), ([0, 1, 2, 7], [0, 1, 2, 7]), ([8, 8], [8]), ([9], [9]), ([9], [9]), ([11, 9], [9, 11]), ([9], [9]), ([12, 13, 9], [9, 12, 13]), ([14, 9], [9, 14]), ([15, 9], [9, 15]), ([10, 16, 9, 9], [9, 10, 16]), ([17, 9], [9, 17]), ([9, 18], [9, 18])])
def spec_l08Blockers.B6 : List Nat := [0, 0, 0, 0, 8, 0, 56, 120, 255, 511, 1023, 1023, 3071, 1023, 15359, 31743, 64511, 131071, 262143, 524287]
theorem spec_l08Blockers.tab6 : rtab .any (opsOf Tryz.f56 6) = spec_l08Blockers.T6 := by kernel_rfl
theorem spec_l08Blockers.bits6 : waitsOk spec_l08Blockers.T6.2 spec_l08Blockers.B6 = true := by kernel_rfl
theorem spec_l08Blockers.calls (k : Nat) (a0_0 : Int) (a0_1 : Int) (A0_2 : Option Addr) (c0_2 : Nat) (l0_2 : List (S113)) (A1_0 : Option Addr) (c1_0 : Nat) (l1_0 : List (S39)) (A1_1 : Option Addr) (c1_1 : Nat) (l1_1 : List (S39)) (a2 : Int) (r : List Int) (w : World) (hr0_2 : Kd.C k113 w A0_2 l0_2.length l0_2) (hc0_2 : l0_2.length ≤ c0_2) (hr1_0 : Kd.C k39 w A1_0 l1_0.length l1_0) (hc1_0 : l1_0.length ≤ c1_0) (hr1_1 : Kd.C k39 w A1_1 l1_1.length l1_1) (hc1_1 : l1_1.length ≤ c1_1) (h : spec_l08Blockers.f k a0_0 a0_1 l0_2 l1_0 l1_1 a2 = some r) :
  Calls Tryz.prog 56 #[.agg #[.int .i64 a0_0, .int .i64 a0_1, .slice A0_2 l0_2.length c0_2], .agg #[.slice A1_0 l1_0.length c1_0, .slice A1_1 l1_1.length c1_1], .int .i64 a2] w fun e w' => ∃ v0_ : Value, e = .returned (v0_) ∧ Kd.R (Kd.int .i64) 3 w' w.heap.size (fun _ => True) v0_ r ∧ Below w.heap.size w w' := by
 have hu35 := Tryz.underlying35
 have hu53 := Tryz.underlying53
 have hu39 := Tryz.underlying39
 have HR0_2 := Am hr0_2
 have HC0_2 := Am hc0_2
 clear hr0_2 hc0_2
 have HR1_0 := Am hr1_0
 have HC1_0 := Am hc1_0
 clear hr1_0 hc1_0
 have HR1_1 := Am hr1_1
 have HC1_1 := Am hc1_1
 clear hr1_1 hc1_1
 have HB := Am (Below.refl w.heap.size w)
 have H : (if 0 ≤ a2 then (if a2 < (l1_1.length : Int) then ((spec_l07Conflicts.f k a0_0 a0_1 l0_2 l1_0 ((rd_T39 l1_1 a2).f0) ((rd_T39 l1_1 a2).f1) ((rd_T39 l1_1 a2).f2)).bind fun t38 => (spec_l08Blockers.l0 k a2 t38 0 a0_0 a0_1 l0_2 l1_0 l1_1 ((rd_T39 l1_1 a2).f0) ((rd_T39 l1_1 a2).f1) ((rd_T39 l1_1 a2).f2))) else (none)) else (none)) = some r := h
 clear h
 obtain ⟨c4, H⟩ | ⟨c4, H⟩ := Xiu H
 ·have c4b0 : decide (0 ≤ a2) = true := decide_eq_true c4
  clear c4
  obtain ⟨c5b0, H⟩ := Xid H
  obtain ⟨t38, A6, H⟩ := Xbi H
  try dsimp only at H
  have H' := Am H
  clear H
  go_enter Tryz.func56, Tryz.ntmps56
  go_wp2_with (first | ((with_reducible refine gate_dst (N := 3) rfl ?_); refine Xbx 3 #[.int .i64 a0_0, .int .i64 a0_1, .slice A0_2 l0_2.length c0_2] 35 ?_; intro gb40 hg w7 B40 GE40 hb; replace HB := Xhb hb; clear hb hg) | ((with_reducible refine gate_dst (N := 4) rfl ?_); refine Xbx 4 #[.slice A1_0 l1_0.length c1_0, .slice A1_1 l1_1.length c1_1] 53 ?_; intro gb41 hg w8 B41 GE41 hb; replace HB := Xhb hb; have NB40_41 := Xnb hg B40; have NB41_40 := Xns NB40_41; replace B40 := Xbb B40 hb; clear hb hg; have hnb9 := NB41_40.out; have hnc9 := NB40_41.out; obtain ⟨Z10_0, Z10_1⟩ := Xc2 B41; obtain ⟨F10_0, F10_1⟩ := Xf2 B41; have p42 : 0 ≤ (a2 : Int) := Xo; have q42 : a2 < (l1_1.length : Int) := Xo; obtain ⟨ad42, e42, hx42_0, hx42_1, hx42_2⟩ := at_T39 HR1_1.out a2 p42 q42; cases e42; replace hx42_0 := Xm HB hx42_0; replace hx42_1 := Xm HB hx42_1; replace hx42_2 := Xm HB hx42_2; replace p42 := eq_true p42; replace q42 := eq_true q42) | ((with_reducible refine gate_dst (N := 7) rfl ?_); refine Xbx 7 #[.int .i64 0, .int .i64 0, .int .i64 0] 39 ?_; intro gb43 hg w11 B43 GE43 hb; replace HB := Xhb hb; have NB40_43 := Xnb hg B40; have NB43_40 := Xns NB40_43; replace B40 := Xbb B40 hb; have NB41_43 := Xnb hg B41; have NB43_41 := Xns NB41_43; replace B41 := Xbb B41 hb; clear hb hg; have hnb12 := NB43_40.out; have hnc12 := NB40_43.out; have hnb13 := NB43_41.out; have hnc13 := NB41_43.out; obtain ⟨Z14_0, Z14_1, Z14_2⟩ := Xc3 B43; obtain ⟨F14_0, F14_1, F14_2⟩ := Xf3 B43) | ((with_reducible refine gate_store (t := 39) (p := 7) rfl ?_); refine store_event (t := 39) (p := 7) (v := ?vo_w15) (w1 := (((w11.setCell ⟨gb43, 0, none⟩ (.int .i64 ((rd_T39 l1_1 a2).f0))).setCell ⟨gb43, 1, none⟩ (.int .i64 ((rd_T39 l1_1 a2).f1))).setCell ⟨gb43, 2, none⟩ (.int .i64 ((rd_T39 l1_1 a2).f2)))) ?hg ?ho ?hn ?hr ?_; (case ho => rfl); (case hg => rfl); (case hn => rfl); (case hr => first | (go_simp; done) | (go_simp; rfl)); intro w15 hw; have n0_ : Aside0 (w15.heap[gb40]? = some (.cells #[.int .i64 a0_0, .int .i64 a0_1, .slice A0_2 l0_2.length c0_2] 35 (0, 0))) := ⟨(by rw [hw]; exact (by refine Xu ?_; refine blk_far ?_ NB40_43.out _; refine Xu ?_; refine blk_far ?_ NB40_43.out _; refine Xu ?_; refine blk_far ?_ NB40_43.out _; refine Xu ?_; exact B40.out))⟩; have n1_ : Aside0 (w15.heap[gb41]? = some (.cells #[.slice A1_0 l1_0.length c1_0, .slice (some ad42) l1_1.length c1_1] 53 (0, 0))) := ⟨(by rw [hw]; exact (by refine Xu ?_; refine blk_far ?_ NB41_43.out _; refine Xu ?_; refine blk_far ?_ NB41_43.out _; refine Xu ?_; refine blk_far ?_ NB41_43.out _; refine Xu ?_; exact B41.out))⟩; have n2_ : Aside0 (w15.heap[gb43]? = some (.cells #[.int .i64 ((rd_T39 l1_1 a2).f0), .int .i64 ((rd_T39 l1_1 a2).f1), .int .i64 ((rd_T39 l1_1 a2).f2)] 39 (0, 0))) := ⟨(by rw [hw]; exact (by refine Xu ?_; refine blk_put (cs := #[.int .i64 ((rd_T39 l1_1 a2).f0), .int .i64 ((rd_T39 l1_1 a2).f1), .int .i64 0]) ?_ 2 _ rfl; refine Xu ?_; refine blk_put (cs := #[.int .i64 ((rd_T39 l1_1 a2).f0), .int .i64 0, .int .i64 0]) ?_ 1 _ rfl; refine Xu ?_; refine blk_put (cs := #[.int .i64 0, .int .i64 0, .int .i64 0]) ?_ 0 _ rfl; refine Xu ?_; exact B43.out))⟩; have n3_ : Aside0 (Below w.heap.size w w15) := ⟨(by rw [hw]; exact Xi)⟩; clear hw; clear B40; clear B41; clear B43; clear HB; have B40 := n0_; have B41 := n1_; have B43 := n2_; have HB := n3_; clear n0_ n1_ n2_ n3_; obtain ⟨Z16_0, Z16_1, Z16_2⟩ := Xc3 B40; obtain ⟨F16_0, F16_1, F16_2⟩ := Xf3 B40; obtain ⟨Z17_0, Z17_1⟩ := Xc2 B41; obtain ⟨F17_0, F17_1⟩ := Xf2 B41; obtain ⟨Z18_0, Z18_1, Z18_2⟩ := Xc3 B43; obtain ⟨F18_0, F18_1, F18_2⟩ := Xf3 B43) | ((with_reducible refine gate_callee (f := 47) rfl ?_); refine Xgo 19 Tryz.func47 #[.agg #[.int .i64 a0_0, .int .i64 a0_1, .slice A0_2 l0_2.length c0_2], .slice A1_0 l1_0.length c1_0, .agg #[.int .i64 ((rd_T39 l1_1 a2).f0), .int .i64 ((rd_T39 l1_1 a2).f1), .int .i64 ((rd_T39 l1_1 a2).f2)]] ?_; (with_reducible refine (spec_l07Conflicts.calls k a0_0 a0_1 _ _ l0_2 _ _ l1_0 ((rd_T39 l1_1 a2).f0) ((rd_T39 l1_1 a2).f1) ((rd_T39 l1_1 a2).f2) t38 _ ?s1 ?s2 ?s3 ?s4 A6.out).mono ?_); (case s1 => exact Xc HR0_2); (case s2 => exact HC0_2.out); (case s3 => exact Xc HR1_0); (case s4 => exact HC1_0.out); rintro e w19 ⟨v384, rfl, ho0, hb⟩; refine ⟨_, rfl, ?_⟩; have HO44 := Am (Kd.R_lower ho0 (below_size Xi)); replace B40 := Xbb B40 hb; replace B41 := Xbb B41 hb; replace B43 := Xbb B43 hb; replace HB := Xhb hb; clear hb; (try clear ho0)))
  go_loopg [8, 9] k (fun kq v8 v9 w' => ∃ (x8_1 : List Int) (x9_1 : Int), v9 = .int .i64 x9_1 ∧ Aside0 (spec_l08Blockers.l0 kq a2 x8_1 x9_1 a0_0 a0_1 l0_2 l1_0 l1_1 ((rd_T39 l1_1 a2).f0) ((rd_T39 l1_1 a2).f1) ((rd_T39 l1_1 a2).f2) = some r) ∧ Aside0 (kq ≤ k) ∧ Aside0 (Kd.R (Kd.int .i64) 3 w' w.heap.size (fun _ => True) v8 x8_1) ∧ Aside0 (w'.heap[gb40]? = some (.cells #[.int .i64 a0_0, .int .i64 a0_1, (.slice A0_2 l0_2.length c0_2)] 35 (0, 0))) ∧ Aside0 (w'.heap[gb41]? = some (.cells #[(.slice A1_0 l1_0.length c1_0), (.slice (some ad42) l1_1.length c1_1)] 53 (0, 0))) ∧ Aside0 (w'.heap[gb43]? = some (.cells #[.int .i64 ((rd_T39 l1_1 a2).f0), .int .i64 ((rd_T39 l1_1 a2).f1), .int .i64 ((rd_T39 l1_1 a2).f2)] 39 (0, 0))) ∧ Aside0 (Below w.heap.size w w'))
  case atStart => exact ⟨(t38), (0), Xr, H', Xkr, (Xp' HO44), B40, B41, B43, ⟨Xi⟩⟩
  clear H'
  (try clear c4); (try clear c4b0); (try clear c5); (try clear c5b0); (try clear Z10_0); (try clear Z10_1); (try clear Z14_0); (try clear Z14_1); (try clear Z14_2); (try clear Z16_0); (try clear Z16_1); (try clear Z16_2); (try clear Z17_0); (try clear Z17_1); (try clear Z18_0); (try clear Z18_1); (try clear Z18_2); (try clear F10_0); (try clear F10_1); (try clear F14_0); (try clear F14_1); (try clear F14_2); (try clear F16_0); (try clear F16_1); (try clear F16_2); (try clear F17_0); (try clear F17_1); (try clear F18_0); (try clear F18_1); (try clear F18_2); (try clear hx42_0); (try clear hx42_1); (try clear hx42_2); (try clear p42); (try clear q42)
  obtain ⟨x8_1, x9_1, rfl, HA, HK1, O_8, B40, B41, B43, HB⟩ := hrel
  cases gk with | zero => cases HA.out | succ k1 => ?_
  have H := HA.out
  clear HA
  simp only [spec_l08Blockers.l0] at H
  obtain ⟨c20b0, H⟩ | ⟨c20b0, H⟩ := Xit H
  ·obtain ⟨c21b0, H⟩ := Xid H
   obtain ⟨c22b0, H⟩ := Xid H
   obtain ⟨t45, A23, H⟩ := Xbi H
   try dsimp only at H
   by_cases c24 : t45 = true
   ·subst c24
    try rw [if_pos rfl] at H
    obtain ⟨t46, A25, H⟩ := Xbi H
    try dsimp only at H
    have HC26 := Am H
    clear H
    try go_wp2_with (fail)
    replace O_8 := Am (Kd.R_drew O_8.out)
    replace B40 := Xbd B40
    replace B41 := Xbd B41
    replace B43 := Xbd B43
    replace HB := Xhd HB
    have p47 : 0 ≤ (x9_1 : Int) := Xo
    have q47 : x9_1 < (l1_1.length : Int) := Xo
    obtain ⟨ad47, e47, hx47_0, hx47_1, hx47_2⟩ := at_T39 HR1_1.out x9_1 p47 q47
    have hw386_2 := hx47_2
    have hw386_1 := hx47_1
    have hw386_0 := hx47_0
    obtain rfl : ad42 = ad47 := (by injection e47)
    replace hx47_0 := Xm HB hx47_0
    replace hx47_1 := Xm HB hx47_1
    replace hx47_2 := Xm HB hx47_2
    replace p47 := eq_true p47
    replace q47 := eq_true q47
    have p48 : 0 ≤ (x9_1 : Int) := Xo
    have q48 : x9_1 < (l1_1.length : Int) := Xo
    obtain ⟨ad48, e48, hx48_0, hx48_1, hx48_2⟩ := at_T39 HR1_1.out x9_1 p48 q48
    have hw388_2 := hx48_2
    have hw388_1 := hx48_1
    have hw388_0 := hx48_0
    obtain rfl : ad42 = ad48 := (by injection e48)
    replace hx48_0 := Xm HB hx48_0
    replace hx48_1 := Xm HB hx48_1
    replace hx48_2 := Xm HB hx48_2
    replace p48 := eq_true p48
    replace q48 := eq_true q48
    refine Sx 20 (fun w' => w'.cell? ⟨gb40, 0, none⟩ = some (.int .i64 a0_0) ∧ w'.cell? ⟨gb40, 1, none⟩ = some (.int .i64 a0_1) ∧ w'.cell? ⟨gb40, 2, none⟩ = some (.slice A0_2 l0_2.length c0_2) ∧ w'.cell? ⟨gb41, 0, none⟩ = some (.slice A1_0 l1_0.length c1_0) ∧ w'.cell? ⟨gb41, 1, none⟩ = some (.slice (some ad42) l1_1.length c1_1) ∧ w'.cell? ⟨gb43, 0, none⟩ = some (.int .i64 ((rd_T39 l1_1 a2).f0)) ∧ w'.cell? ⟨gb43, 1, none⟩ = some (.int .i64 ((rd_T39 l1_1 a2).f1)) ∧ w'.cell? ⟨gb43, 2, none⟩ = some (.int .i64 ((rd_T39 l1_1 a2).f2)) ∧ w'.cell? (ad42.add ((x9_1).toNat * 3)) = some (.int .i64 ((rd_T39 l1_1 x9_1).f0)) ∧ w'.cell? ⟨(ad42.add ((x9_1).toNat * 3)).block, (ad42.add ((x9_1).toNat * 3)).off + 1, none⟩ = some (.int .i64 ((rd_T39 l1_1 x9_1).f1)) ∧ w'.cell? ⟨(ad42.add ((x9_1).toNat * 3)).block, (ad42.add ((x9_1).toNat * 3)).off + 2, none⟩ = some (.int .i64 ((rd_T39 l1_1 x9_1).f2)) ∧ w'.cell? (ad42.add ((x9_1).toNat * 3)) = some (.int .i64 ((rd_T39 l1_1 x9_1).f0)) ∧ w'.cell? ⟨(ad42.add ((x9_1).toNat * 3)).block, (ad42.add ((x9_1).toNat * 3)).off + 1, none⟩ = some (.int .i64 ((rd_T39 l1_1 x9_1).f1)) ∧ w'.cell? ⟨(ad42.add ((x9_1).toNat * 3)).block, (ad42.add ((x9_1).toNat * 3)).off + 2, none⟩ = some (.int .i64 ((rd_T39 l1_1 x9_1).f2))) ⟨Xk B40 0, Xk B40 1, Xk B40 2, Xk B41 0, Xk B41 1, Xk B43 0, Xk B43 1, Xk B43 2, Xn hw386_0, Xn hw386_1, Xn hw386_2, Xn hw388_0, Xn hw388_1, Xn hw388_2⟩ (fun hHeld => ?_); refine with_tabW spec_l08Blockers.tab6 spec_l08Blockers.bits6 (fun HT_ HW_ => ?_)
    generalize wr.drew = w27 at O_8 B40 B41 B43 HB hx47_0 hx47_1 hx47_2 hx48_0 hx48_1 hx48_2 hHeld ⊢
    refine Pu 3 28 20 8 ?_
    refine Pu 5 30 20 40 ?_
    refine Ta 0 25 20 41 ?_
    refine Ta 1 26 20 43 ?_
    refine Ta 2 27 20 47 ?_
    refine Ta 4 29 20 63 ?_
    refine Pu 6 31 20 127 ?_
    refine Ta 7 32 20 255 ?_
    refine On 8 33 20 511 (fun K hK => ?_)
    refine Gs Tryz.func103 #[.agg #[.int .i64 a0_0, .int .i64 a0_1, .slice A0_2 l0_2.length c0_2], .agg #[.slice A1_0 l1_0.length c1_0, .slice (some ad42) l1_1.length c1_1], .agg #[.int .i64 ((rd_T39 l1_1 a2).f0), .int .i64 ((rd_T39 l1_1 a2).f1), .int .i64 ((rd_T39 l1_1 a2).f2)], .agg #[.int .i64 ((rd_T39 l1_1 x9_1).f0), .int .i64 ((rd_T39 l1_1 x9_1).f1), .int .i64 ((rd_T39 l1_1 x9_1).f2)]] ?_
    with_reducible refine (spec_l08Rival.calls k1 a0_0 a0_1 _ _ l0_2 _ _ l1_0 _ _ l1_1 ((rd_T39 l1_1 a2).f0) ((rd_T39 l1_1 a2).f1) ((rd_T39 l1_1 a2).f2) ((rd_T39 l1_1 x9_1).f0) ((rd_T39 l1_1 x9_1).f1) ((rd_T39 l1_1 x9_1).f2) true _ ?s1 ?s2 ?s3 ?s4 ?s5 ?s6 A23.out).mono ?_
    (case s1 => exact Xc HR0_2)
    (case s2 => exact HC0_2.out)
    (case s3 => exact Xc HR1_0)
    (case s4 => exact HC1_0.out)
    (case s5 => exact Xc HR1_1)
    (case s6 => exact HC1_1.out)
    rintro e w28 ⟨rfl, hb⟩
    refine ⟨_, rfl, ?_⟩
    replace O_8 := Am (Kd.R_below (Xq O_8) hb)
    replace B40 := Xbb B40 hb
    replace B41 := Xbb B41 hb
    replace B43 := Xbb B43 hb
    replace HB := Xhb hb
    try clear hb
    try clear hb2
    try clear hk
    try clear hi
    obtain ⟨Ao29, co29, eo29⟩ := Kd.R_slice O_8.out
    (first | subst eo29 | (injection eo29 with f1_ f2_ f3_; have f4_ := f1_.symm; have f5_ := f3_.symm; clear f1_ f2_ f3_; subst f4_; subst f5_))
    refine hK.out _ _ ⟨Xk B40 0, Xk B40 1, Xk B40 2, Xk B41 0, Xk B41 1, Xk B43 0, Xk B43 1, Xk B43 2, Xn hw386_0, Xn hw386_1, Xn hw386_2, Xn hw388_0, Xn hw388_1, Xn hw388_2⟩ (fun hHeld => ?_)
    clear hK K
    refine Xno ?_
    refine Pu 9 34 20 1023 ?_
    refine Pu 10 35 20 2047 ?_
    refine Pu 11 36 20 4095 ?_
    refine Pu 13 38 20 12287 ?_
    refine Ta 12 37 20 16383 ?_
    refine Pu 14 39 20 32767 ?_
    refine Pu 15 40 20 65535 ?_
    refine Ta 16 41 20 131071 ?_
    refine On 17 42 20 262143 (fun K hK => ?_)
    refine Gs Tryz.func104 #[.slice Ao29 x8_1.length co29, .int .i64 ((rd_T39 l1_1 x9_1).f0)] ?_
    with_reducible refine (spec_l02Has.calls k1 _ _ x8_1 ((rd_T39 l1_1 x9_1).f0) t46 _ ?s1 ?s2 A25.out).mono ?_
    (case s1 => exact Xcd (Kd.R_reads' O_8.out).2.2)
    (case s2 => exact (Kd.R_reads' O_8.out).2.1)
    rintro e w' ⟨rfl, ⟨nd, rfl⟩⟩
    refine ⟨_, rfl, ?_⟩
    refine hK.out _ _ ⟨Xk B40 0, Xk B40 1, Xk B40 2, Xk B41 0, Xk B41 1, Xk B43 0, Xk B43 1, Xk B43 2, Xn hw386_0, Xn hw386_1, Xn hw386_2, Xn hw388_0, Xn hw388_1, Xn hw388_2⟩ (fun hHeld => ?_)
    clear hK K
    refine Xno ?_
    refine Pu 18 43 20 524287 ?_
    refine Pu 19 44 20 1048575 ?_
    refine Dn ?_
    go_upto_if 44 with (fail)
    (try (rw [drewN_self w28]; generalize hq_ : World.drewN w28 _ = w28; have n0_ : Aside0 (Kd.R (Kd.int .i64) 3 w28 w.heap.size (fun _ => True) (.slice Ao29 x8_1.length co29) x8_1) := ⟨by rw [← hq_]; exact (Xq O_8)⟩; have n1_ : Aside0 (w28.heap[gb40]? = some (.cells #[.int .i64 a0_0, .int .i64 a0_1, .slice A0_2 l0_2.length c0_2] 35 (0, 0))) := ⟨by rw [← hq_]; exact B40.out⟩; have n2_ : Aside0 (w28.heap[gb41]? = some (.cells #[.slice A1_0 l1_0.length c1_0, .slice (some ad42) l1_1.length c1_1] 53 (0, 0))) := ⟨by rw [← hq_]; exact B41.out⟩; have n3_ : Aside0 (w28.heap[gb43]? = some (.cells #[.int .i64 ((rd_T39 l1_1 a2).f0), .int .i64 ((rd_T39 l1_1 a2).f1), .int .i64 ((rd_T39 l1_1 a2).f2)] 39 (0, 0))) := ⟨by rw [← hq_]; exact B43.out⟩; have n4_ : Aside0 (Below w.heap.size w w28) := ⟨by rw [← hq_]; exact Xi⟩; clear O_8 B40 B41 B43 HB hq_; have O_8 := n0_; have B40 := n1_; have B41 := n2_; have B43 := n3_; have HB := n4_; clear n0_ n1_ n2_ n3_ n4_))
    have H := HC26.out
    clear HC26
    by_cases c30 : t46 = true
    ·subst c30
     try rw [if_pos rfl] at H
     have H' := Am H
     clear H
     go_wp2
     go_roundg k1
     case measure => have := HK1.out; omega
     case rel => exact ⟨(x8_1), (wrap64 (x9_1 + 1)), Xr, H', Xk1, (Xp' O_8), B40, B41, B43, ⟨Xi⟩⟩
    replace c30 := Xbf c30
    subst c30
    try rw [if_neg Xft] at H
    obtain ⟨t49, A31, H⟩ := Xbi H
    try dsimp only at H
    have H' := Am H
    clear H
    have hnb32 := NB41_40.out
    have hnc32 := NB40_41.out
    have hnb33 := NB41_43.out
    have hnc33 := NB43_41.out
    obtain ⟨Z34_0, Z34_1⟩ := Xc2 B41
    obtain ⟨F34_0, F34_1⟩ := Xf2 B41
    obtain ⟨ad50, e50, p50, q50, hx50_0, hx50_1, hx50_2⟩ := at_B39 HR1_1 x9_1 Xa Xa HB
    obtain rfl : ad42 = ad50 := (by injection e50)
    go_wp2_with (first | ((with_reducible refine gate_callee (f := 105) rfl ?_); refine Xgo 52 Tryz.func105 #[.slice Ao29 x8_1.length co29, .int .i64 ((rd_T39 l1_1 x9_1).f0)] ?_; (with_reducible refine (spec_l08Rise.calls k1 _ _ x8_1 ((rd_T39 l1_1 x9_1).f0) t49 _ ?s1 ?s2 A31.out).mono ?_); (case s1 => exact Xcd (Kd.R_reads' O_8.out).2.2); (case s2 => exact (Kd.R_reads' O_8.out).2.1); rintro e w35 ⟨v392, rfl, ho0, hb⟩; refine ⟨_, rfl, ?_⟩; have HO51 := Am (Kd.R_lower (Kd.R_new' ho0 (Kd.R_lt (Xq O_8))) (below_size Xi)); replace O_8 := Am (Kd.R_elder' (Xq O_8) (Kd.R_base ho0) hb); replace B40 := Xbb B40 hb; replace B41 := Xbb B41 hb; replace B43 := Xbb B43 hb; replace HB := Xhb hb; clear hb; (try clear ho0)))
    go_roundg k1
    case measure => have := HK1.out; omega
    case rel => exact ⟨(t49), (wrap64 (x9_1 + 1)), Xr, H', Xk1, ⟨by (with_reducible repeat (first | apply Kd.R_alloc | apply Kd.R_drewN | apply Kd.R_drew)); exact Kd.R_mono HO51.out (fun _ hk => trivial)⟩, B40, B41, B43, ⟨Xi⟩⟩
   replace c24 := Xbf c24
   subst c24
   try rw [if_neg Xft] at H
   have H' := Am H
   clear H
   try go_wp2_with (fail)
   replace O_8 := Am (Kd.R_drew O_8.out)
   replace B40 := Xbd B40
   replace B41 := Xbd B41
   replace B43 := Xbd B43
   replace HB := Xhd HB
   have p47 : 0 ≤ (x9_1 : Int) := Xo
   have q47 : x9_1 < (l1_1.length : Int) := Xo
   obtain ⟨ad47, e47, hx47_0, hx47_1, hx47_2⟩ := at_T39 HR1_1.out x9_1 p47 q47
   have hw386_2 := hx47_2
   have hw386_1 := hx47_1
   have hw386_0 := hx47_0
   obtain rfl : ad42 = ad47 := (by injection e47)
   replace hx47_0 := Xm HB hx47_0
   replace hx47_1 := Xm HB hx47_1
   replace hx47_2 := Xm HB hx47_2
   replace p47 := eq_true p47
   replace q47 := eq_true q47
   refine Sx 20 (fun w' => w'.cell? ⟨gb40, 0, none⟩ = some (.int .i64 a0_0) ∧ w'.cell? ⟨gb40, 1, none⟩ = some (.int .i64 a0_1) ∧ w'.cell? ⟨gb40, 2, none⟩ = some (.slice A0_2 l0_2.length c0_2) ∧ w'.cell? ⟨gb41, 0, none⟩ = some (.slice A1_0 l1_0.length c1_0) ∧ w'.cell? ⟨gb41, 1, none⟩ = some (.slice (some ad42) l1_1.length c1_1) ∧ w'.cell? ⟨gb43, 0, none⟩ = some (.int .i64 ((rd_T39 l1_1 a2).f0)) ∧ w'.cell? ⟨gb43, 1, none⟩ = some (.int .i64 ((rd_T39 l1_1 a2).f1)) ∧ w'.cell? ⟨gb43, 2, none⟩ = some (.int .i64 ((rd_T39 l1_1 a2).f2)) ∧ w'.cell? (ad42.add ((x9_1).toNat * 3)) = some (.int .i64 ((rd_T39 l1_1 x9_1).f0)) ∧ w'.cell? ⟨(ad42.add ((x9_1).toNat * 3)).block, (ad42.add ((x9_1).toNat * 3)).off + 1, none⟩ = some (.int .i64 ((rd_T39 l1_1 x9_1).f1)) ∧ w'.cell? ⟨(ad42.add ((x9_1).toNat * 3)).block, (ad42.add ((x9_1).toNat * 3)).off + 2, none⟩ = some (.int .i64 ((rd_T39 l1_1 x9_1).f2))) ⟨Xk B40 0, Xk B40 1, Xk B40 2, Xk B41 0, Xk B41 1, Xk B43 0, Xk B43 1, Xk B43 2, Xn hw386_0, Xn hw386_1, Xn hw386_2⟩ (fun hHeld => ?_); refine with_tabW spec_l08Blockers.tab6 spec_l08Blockers.bits6 (fun HT_ HW_ => ?_)
   generalize wr.drew = w36 at O_8 B40 B41 B43 HB hx47_0 hx47_1 hx47_2 hHeld ⊢
   refine Pu 3 28 20 8 ?_
   refine Pu 5 30 20 40 ?_
   refine Ta 0 25 20 41 ?_
   refine Ta 1 26 20 43 ?_
   refine Ta 2 27 20 47 ?_
   refine Ta 4 29 20 63 ?_
   refine Pu 6 31 20 127 ?_
   refine Ta 7 32 20 255 ?_
   refine On 8 33 20 511 (fun K hK => ?_)
   refine Gs Tryz.func103 #[.agg #[.int .i64 a0_0, .int .i64 a0_1, .slice A0_2 l0_2.length c0_2], .agg #[.slice A1_0 l1_0.length c1_0, .slice (some ad42) l1_1.length c1_1], .agg #[.int .i64 ((rd_T39 l1_1 a2).f0), .int .i64 ((rd_T39 l1_1 a2).f1), .int .i64 ((rd_T39 l1_1 a2).f2)], .agg #[.int .i64 ((rd_T39 l1_1 x9_1).f0), .int .i64 ((rd_T39 l1_1 x9_1).f1), .int .i64 ((rd_T39 l1_1 x9_1).f2)]] ?_
   with_reducible refine (spec_l08Rival.calls k1 a0_0 a0_1 _ _ l0_2 _ _ l1_0 _ _ l1_1 ((rd_T39 l1_1 a2).f0) ((rd_T39 l1_1 a2).f1) ((rd_T39 l1_1 a2).f2) ((rd_T39 l1_1 x9_1).f0) ((rd_T39 l1_1 x9_1).f1) ((rd_T39 l1_1 x9_1).f2) false _ ?s1 ?s2 ?s3 ?s4 ?s5 ?s6 A23.out).mono ?_
   (case s1 => exact Xc HR0_2)
   (case s2 => exact HC0_2.out)
   (case s3 => exact Xc HR1_0)
   (case s4 => exact HC1_0.out)
   (case s5 => exact Xc HR1_1)
   (case s6 => exact HC1_1.out)
   rintro e w37 ⟨rfl, hb⟩
   refine ⟨_, rfl, ?_⟩
   replace O_8 := Am (Kd.R_below (Xq O_8) hb)
   replace B40 := Xbb B40 hb
   replace B41 := Xbb B41 hb
   replace B43 := Xbb B43 hb
   replace HB := Xhb hb
   try clear hb
   try clear hb2
   try clear hk
   try clear hi
   refine hK.out _ _ ⟨Xk B40 0, Xk B40 1, Xk B40 2, Xk B41 0, Xk B41 1, Xk B43 0, Xk B43 1, Xk B43 2, Xn hw386_0, Xn hw386_1, Xn hw386_2⟩ (fun hHeld => ?_)
   clear hK K
   refine Xno ?_
   refine Pu 9 34 20 1023 ?_
   refine Pn 10 35 20 2047 ?_
   refine Pn 11 36 20 4095 ?_
   refine Pn 12 37 20 8191 ?_
   refine Pn 13 38 20 16383 ?_
   refine Pn 14 39 20 32767 ?_
   refine Pn 15 40 20 65535 ?_
   refine Pn 16 41 20 131071 ?_
   refine Pn 17 42 20 262143 ?_
   refine Pn 18 43 20 524287 ?_
   refine Pu 19 44 20 1048575 ?_
   refine Dn ?_
   try go_wp2_with (fail)
   go_roundg k1
   case measure => have := HK1.out; omega
   case rel => exact ⟨(x8_1), (wrap64 (x9_1 + 1)), Xr, H', Xk1, (Xp' O_8), B40, B41, B43, ⟨Xi⟩⟩
  obtain rfl := Xsi H
  go_wp2
  go_ret
  exact ⟨_, Xe, Xq O_8, Xi⟩
 exact absurd H (by simp)
end Go.Proofs.YtahhgjkgfbppeaaGreat.XA
