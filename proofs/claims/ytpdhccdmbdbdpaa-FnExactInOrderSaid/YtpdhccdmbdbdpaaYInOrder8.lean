/- Contracts of the program's functions: each Go function that is named below comes to what its Lean function says. Written by xprint.py (a program of this session's, over the kit's print). Conditions: each contract's own premises. -/
import Derived.Test.YtpdhccdmbdbdpaaYInOrder0
import Derived.Test.YtpdhccdmbdbdpaaYInOrder5
import Derived.Test.YtpdhccdmbdbdpaaYInOrder7
namespace Go.Proofs.Ytpdhccdmbdbdpaa.XA
open Go.RowKit Go.Proofs.YtpdhccdmbdbdpaaW.PrintWords Go.Proofs.YtpdhccdmbdbdpaaW.PrintLast Go.Proofs.YtpdhccdmbdbdpaaW.PrintMore XW
attribute [local go_sem] max2_int min2_int max_two min_two max_three min_three max_four min_four   -- for this text's walks alone
set_option linter.unusedVariables false
set_option linter.unusedSimpArgs false

/-! ### spec_l02Parent: function 57 -/
def spec_l02Parent.l0 : Nat → Int → Int → Int → Int → List (S43) → Option (Int)
 | 0, _, _, _, _, _ => none
 | k + 1, x1, x5, x232000, x232001, x232002 => if x5 < (x232002.length : Int) then (if 0 ≤ x5 then ((spec_l02Has.f k ((rd_T43 x232002 x5).f4) x1).bind fun t233 => (if t233 = true then (some ((rd_T43 x232002 x5).f0)) else (spec_l02Parent.l0 k x1 (wrap64 (x5 + 1)) x232000 x232001 x232002))) else (none)) else (some 0)
def spec_l02Parent.f (k : Nat) (a0_0 : Int) (a0_1 : Int) (l0_2 : List (S43)) (a1 : Int) : Option (Int) := spec_l02Parent.l0 k a1 0 a0_0 a0_1 l0_2
set_option maxHeartbeats 8000000 in
set_option maxRecDepth 100000 in
theorem spec_l02Parent.calls (k : Nat) (a0_0 : Int) (a0_1 : Int) (A0_2 : Option Addr) (c0_2 : Nat) (l0_2 : List (S43)) (a1 : Int) (r : Int) (w : World) (hr0_2 : Kd.C k43 w A0_2 l0_2.length l0_2) (hc0_2 : l0_2.length ≤ c0_2) (h : spec_l02Parent.f k a0_0 a0_1 l0_2 a1 = some r) :
  Calls Try.prog 57 #[.agg #[.int .i64 a0_0, .int .i64 a0_1, .slice A0_2 l0_2.length c0_2], .int .i64 a1] w fun e w' => e = .returned (.int .i64 r) ∧ Below w.heap.size w w' := by
 have hu29 := Try.underlying29
 have HR0_2 := Aside0.mk hr0_2
 have HC0_2 := Aside0.mk hc0_2
 clear hr0_2 hc0_2
 have HB := Aside0.mk (Below.refl w.heap.size w)
 have H : (spec_l02Parent.l0 k a1 0 a0_0 a0_1 l0_2) = some r := h
 clear h
 have H' := Aside0.mk H
 clear H
 go_enter Try.func57, Try.ntmps57
 go_wp2_with (first | ((with_reducible refine gate_dst (N := 2) rfl ?_); refine Xbox 2 #[.int .i64 a0_0, .int .i64 a0_1, .slice A0_2 l0_2.length c0_2] 29 ?_; intro gb231 hg w3 hbox hb; have BK231 := Aside0.mk (hbox); have GE231 := Xge hg Xi; replace HB := Aside0.mk (below_step Xi hb); clear hb hbox hg))
 go_loopg [5] k (fun kq v5 w' => ∃ (x5_1 : Int), v5 = .int .i64 x5_1 ∧ Aside0 (spec_l02Parent.l0 kq a1 x5_1 a0_0 a0_1 l0_2 = some r) ∧ Aside0 (kq ≤ k) ∧ Aside0 (w'.heap[gb231]? = some (.cells #[.int .i64 a0_0, .int .i64 a0_1, (.slice A0_2 l0_2.length c0_2)] 29 (0, 0))) ∧ Aside0 (Below w.heap.size w w'))
 case atStart => exact ⟨(0), Xr, H', Xkr, BK231, ⟨Xi⟩⟩
 case round =>
  clear H'
  obtain ⟨x5_1, rfl, HA, HK1, BK231, HB⟩ := hrel
  cases gk with
  | zero => cases HA.out
  | succ k1 =>
   have H := HA.out
   clear HA
   simp only [spec_l02Parent.l0] at H
   obtain ⟨c4b0, H⟩ | ⟨c4b0, H⟩ := Xit H
   ·obtain ⟨c5b0, H⟩ := Xid H
    obtain ⟨t233, A6, H⟩ := Xbi H
    (try dsimp only at H)
    have HC7 := Aside0.mk H
    clear H
    obtain ⟨hcz8_0, hcz8_1, hcz8_2⟩ := Xc3 BK231
    obtain ⟨ad232, A232_4, c232_4, e232, p232, q232, hx232_0, hx232_1, hx232_2, hx232_3, hx232_4, HC232_4, HR232_4⟩ := at_B43 HR0_2 x5_1 Xa Xa HB
    cases e232
    go_upto_if 20 with (first | ((with_reducible refine gate_callee (f := 102) rfl ?_); refine Xgo 20 Try.func102 #[.slice A232_4 ((rd_T43 l0_2 x5_1).f4).length c232_4, .int .i64 a1] ?_; (with_reducible refine (spec_l02Has.calls k1 _ _ ((rd_T43 l0_2 x5_1).f4) a1 t233 _ ?side1 ?side2 A6.out).mono ?_); (case side1 => exact Xc HR232_4); (case side2 => exact HC232_4.out); rintro e w' ⟨rfl, ⟨nd, rfl⟩⟩; refine ⟨_, rfl, ?_⟩))
    have H := HC7.out
    clear HC7
    by_cases c9 : t233 = true
    ·subst c9
     (first | rw [if_pos rfl] at H | skip)
     obtain rfl := Option.some.inj H
     obtain ⟨hcz10_0, hcz10_1, hcz10_2⟩ := Xc3 BK231
     obtain ⟨ad234, A234_4, c234_4, e234, p234, q234, hx234_0, hx234_1, hx234_2, hx234_3, hx234_4, HC234_4, HR234_4⟩ := at_B43 HR0_2 x5_1 Xa Xa HB
     obtain rfl : ad232 = ad234 := (by injection e234)
     go_wp2
     go_ret
     exact ⟨Xe, Xi⟩
    ·replace c9 := Bool.eq_false_iff.mpr c9
     subst c9
     (first | rw [if_neg (show ¬ (false = true) by decide)] at H | skip)
     have H' := Aside0.mk H
     clear H
     go_wp2
     go_roundg k1
     case measure => have := HK1.out; omega
     case rel => exact ⟨(wrap64 (x5_1 + 1)), Xr, H', Xk1, BK231, ⟨Xi⟩⟩
   ·obtain rfl := Option.some.inj H
    obtain ⟨hcz11_0, hcz11_1, hcz11_2⟩ := Xc3 BK231
    go_wp2
    go_ret
    exact ⟨Xe, Xi⟩

/-! ### spec_l02Reach: function 100 -/
mutual
def spec_l02Reach.l0 : Nat → Int → Int → Int → List (S43) → Option (Bool)
 | 0, _, _, _, _ => none
 | k + 1, x3, x236000, x236001, x236002 => if x3 < (x236002.length : Int) then (if 0 ≤ x3 then (spec_l02Reach.l1 k x3 ((rd_T43 x236002 x3).f0) 0 x236000 x236001 x236002) else (none)) else (some true)
def spec_l02Reach.l1 : Nat → Int → Int → Int → Int → Int → List (S43) → Option (Bool)
 | 0, _, _, _, _, _, _ => none
 | k + 1, x3, x4, x5, x236000, x236001, x236002 => if x4 = x236000 then (spec_l02Reach.l0 k (wrap64 (x3 + 1)) x236000 x236001 x236002) else (if x4 > 0 then (if x5 ≤ (x236002.length : Int) then ((spec_l02Parent.f k x236000 x236001 x236002 x4).bind fun t237 => (spec_l02Reach.l1 k x3 t237 (wrap64 (x5 + 1)) x236000 x236001 x236002)) else (some false)) else (some false))
end
def spec_l02Reach.f (k : Nat) (a0_0 : Int) (a0_1 : Int) (l0_2 : List (S43)) : Option (Bool) := spec_l02Reach.l0 k 0 a0_0 a0_1 l0_2
set_option maxHeartbeats 8000000 in
set_option maxRecDepth 100000 in
theorem spec_l02Reach.calls (k : Nat) (a0_0 : Int) (a0_1 : Int) (A0_2 : Option Addr) (c0_2 : Nat) (l0_2 : List (S43)) (r : Bool) (w : World) (hr0_2 : Kd.C k43 w A0_2 l0_2.length l0_2) (hc0_2 : l0_2.length ≤ c0_2) (h : spec_l02Reach.f k a0_0 a0_1 l0_2 = some r) :
  Calls Try.prog 100 #[.agg #[.int .i64 a0_0, .int .i64 a0_1, .slice A0_2 l0_2.length c0_2]] w fun e w' => e = .returned (.bool r) ∧ Below w.heap.size w w' := by
 have hu29 := Try.underlying29
 have HR0_2 := Aside0.mk hr0_2
 have HC0_2 := Aside0.mk hc0_2
 clear hr0_2 hc0_2
 have HB := Aside0.mk (Below.refl w.heap.size w)
 have H : (spec_l02Reach.l0 k 0 a0_0 a0_1 l0_2) = some r := h
 clear h
 have H' := Aside0.mk H
 clear H
 go_enter Try.func100, Try.ntmps100
 go_wp2_with (first | ((with_reducible refine gate_dst (N := 1) rfl ?_); (try (refine gate_guard (by rfl) ?_; dsimp only)); refine Xbox 1 #[.int .i64 a0_0, .int .i64 a0_1, .slice A0_2 l0_2.length c0_2] 29 ?_; intro gb235 hg w2 hbox hb; have BK235 := Aside0.mk (hbox); have GE235 := Xge hg Xi; replace HB := Aside0.mk (below_step Xi hb); clear hb hbox hg))
 go_loopg [3] k (fun kq v3 w' => ∃ (x3_1 : Int), v3 = .int .i64 x3_1 ∧ Aside0 (spec_l02Reach.l0 kq x3_1 a0_0 a0_1 l0_2 = some r) ∧ Aside0 (kq ≤ k) ∧ Aside0 (w'.heap[gb235]? = some (.cells #[.int .i64 a0_0, .int .i64 a0_1, (.slice A0_2 l0_2.length c0_2)] 29 (0, 0))) ∧ Aside0 (Below w.heap.size w w'))
 case atStart => exact ⟨(0), Xr, H', Xkr, BK235, ⟨Xi⟩⟩
 case round =>
  clear H'
  obtain ⟨x3_1, rfl, HA, HK1, BK235, HB⟩ := hrel
  cases gk with
  | zero => cases HA.out
  | succ k1 =>
   have H := HA.out
   clear HA
   simp only [spec_l02Reach.l0] at H
   obtain ⟨c3b0, H⟩ | ⟨c3b0, H⟩ := Xit H
   ·obtain ⟨c4b0, H⟩ := Xid H
    have H' := Aside0.mk H
    clear H
    obtain ⟨hcz5_0, hcz5_1, hcz5_2⟩ := Xc3 BK235
    obtain ⟨ad236, A236_4, c236_4, e236, p236, q236, hx236_0, hx236_1, hx236_2, hx236_3, hx236_4, HC236_4, HR236_4⟩ := at_B43 HR0_2 x3_1 Xa Xa HB
    cases e236
    go_wp2
    go_loopg [4, 5] k1 (fun kq v4 v5 w' => ∃ (x4_2 : Int) (x5_2 : Int), v4 = .int .i64 x4_2 ∧ v5 = .int .i64 x5_2 ∧ Aside0 (spec_l02Reach.l1 kq x3_1 x4_2 x5_2 a0_0 a0_1 l0_2 = some r) ∧ Aside0 (kq ≤ k1) ∧ Aside0 (w'.heap[gb235]? = some (.cells #[.int .i64 a0_0, .int .i64 a0_1, (.slice (some ad236) l0_2.length c0_2)] 29 (0, 0))) ∧ Aside0 (Below w.heap.size w w'))
    case atStart => exact ⟨((rd_T43 l0_2 x3_1).f0), (0), Xr, Xr, H', Xkr, BK235, ⟨Xi⟩⟩
    case round =>
     clear H'
     (try clear c3); (try clear c3b0); (try clear c4); (try clear c4b0); (try clear hcz5_0); (try clear hcz5_1); (try clear hcz5_2); (try clear hx236_0); (try clear hx236_1); (try clear hx236_2); (try clear hx236_3); (try clear hx236_4); (try clear p236); (try clear q236)
     obtain ⟨x4_2, x5_2, rfl, rfl, HA, HK2, BK235, HB⟩ := hrel
     cases gk with
     | zero => cases HA.out
     | succ k2 =>
      have H := HA.out
      clear HA
      simp only [spec_l02Reach.l1] at H
      obtain ⟨c6, H⟩ | ⟨c6, H⟩ := Xiu H
      ·have c6b0 : (x4_2 == a0_0) = true := beq_iff_eq.mpr c6
       have c6b1 : (x4_2 != a0_0) = false := bne_eq_false_iff_eq.mpr c6
       clear c6
       have H' := Aside0.mk H
       clear H
       obtain ⟨hcz7_0, hcz7_1, hcz7_2⟩ := Xc3 BK235
       go_wp2
       go_roundg k2
       case measure => have := HK1.out; have := HK2.out; omega
       case rel => exact ⟨(wrap64 (x3_1 + 1)), Xr, H', ⟨by have := HK1.out; have := HK2.out; omega⟩, BK235, ⟨Xi⟩⟩
      ·have c6b0 : (x4_2 == a0_0) = false := beq_eq_false_iff_ne.mpr c6
       have c6b1 : (x4_2 != a0_0) = true := bne_iff_ne.mpr c6
       obtain ⟨c8, H⟩ | ⟨c8, H⟩ := Xiu H
       ·have c8b0 : decide (0 < x4_2) = true := decide_eq_true c8
        clear c8
        obtain ⟨c9b0, H⟩ | ⟨c9b0, H⟩ := Xit H
        ·obtain ⟨t237, A10, H⟩ := Xbi H
         (try dsimp only at H)
         have H' := Aside0.mk H
         clear H
         obtain ⟨hcz11_0, hcz11_1, hcz11_2⟩ := Xc3 BK235
         go_wp2_with (first | ((with_reducible refine gate_callee (f := 57) rfl ?_); refine Xgo 36 Try.func57 #[.agg #[.int .i64 a0_0, .int .i64 a0_1, .slice (some ad236) l0_2.length c0_2], .int .i64 x4_2] ?_; (with_reducible refine (spec_l02Parent.calls k2 a0_0 a0_1 _ _ l0_2 x4_2 t237 _ ?side1 ?side2 A10.out).mono ?_); (case side1 => exact Xc HR0_2); (case side2 => exact HC0_2.out); rintro e w12 ⟨rfl, hb⟩; refine ⟨_, rfl, ?_⟩; replace BK235 := Xbb BK235 hb; replace HB := Aside0.mk (below_step Xi hb); clear hb))
         go_roundg k2
         case measure => have := HK1.out; have := HK2.out; omega
         case rel => exact ⟨(t237), (wrap64 (x5_2 + 1)), Xr, Xr, H', ⟨by have := HK1.out; have := HK2.out; omega⟩, BK235, ⟨Xi⟩⟩
        ·obtain rfl := Option.some.inj H
         obtain ⟨hcz13_0, hcz13_1, hcz13_2⟩ := Xc3 BK235
         go_wp2
         go_ret
         exact ⟨Xe, Xi⟩
       ·have c8b0 : decide (0 < x4_2) = false := decide_eq_false c8
        clear c8
        obtain rfl := Option.some.inj H
        obtain ⟨hcz14_0, hcz14_1, hcz14_2⟩ := Xc3 BK235
        go_wp2
        go_ret
        exact ⟨Xe, Xi⟩
   ·obtain rfl := Option.some.inj H
    obtain ⟨hcz15_0, hcz15_1, hcz15_2⟩ := Xc3 BK235
    go_wp2
    go_ret
    exact ⟨Xe, Xi⟩

/-! ### spec_l02OK: function 51 -/
def spec_l02OK.f (k : Nat) (a0_0 : Int) (a0_1 : Int) (l0_2 : List (S43)) : Option (Bool) := (spec_l01In.f (l0_2.length : Int) 1 40).bind fun t239 => (if t239 = true then ((spec_l01In.f a0_1 2 999999).bind fun t240 => (if t240 = true then ((spec_l02Nodes.f k a0_0 a0_1 l0_2).bind fun t241 => (if t241 = true then ((spec_l02Reach.f k a0_0 a0_1 l0_2).bind fun t242 => (if t242 = true then ((spec_l02Deep.f k a0_0 a0_1 l0_2 a0_0 6).bind fun t243 => (some (decide (t243 ≤ 6)))) else (some false))) else (some false))) else (some false))) else (some false))
set_option maxHeartbeats 8000000 in
set_option maxRecDepth 100000 in
theorem spec_l02OK.calls (k : Nat) (a0_0 : Int) (a0_1 : Int) (A0_2 : Option Addr) (c0_2 : Nat) (l0_2 : List (S43)) (r : Bool) (w : World) (hr0_2 : Kd.C k43 w A0_2 l0_2.length l0_2) (hc0_2 : l0_2.length ≤ c0_2) (h : spec_l02OK.f k a0_0 a0_1 l0_2 = some r) :
  Calls Try.prog 51 #[.agg #[.int .i64 a0_0, .int .i64 a0_1, .slice A0_2 l0_2.length c0_2]] w fun e w' => e = .returned (.bool r) ∧ Below w.heap.size w w' := by
 have hu29 := Try.underlying29
 have HR0_2 := Aside0.mk hr0_2
 have HC0_2 := Aside0.mk hc0_2
 clear hr0_2 hc0_2
 have HB := Aside0.mk (Below.refl w.heap.size w)
 have H : ((spec_l01In.f (l0_2.length : Int) 1 40).bind fun t239 => (if t239 = true then ((spec_l01In.f a0_1 2 999999).bind fun t240 => (if t240 = true then ((spec_l02Nodes.f k a0_0 a0_1 l0_2).bind fun t241 => (if t241 = true then ((spec_l02Reach.f k a0_0 a0_1 l0_2).bind fun t242 => (if t242 = true then ((spec_l02Deep.f k a0_0 a0_1 l0_2 a0_0 6).bind fun t243 => (some (decide (t243 ≤ 6)))) else (some false))) else (some false))) else (some false))) else (some false))) = some r := h
 clear h
 have HC2 := Aside0.mk H
 clear H
 go_enter Try.func51, Try.ntmps51
 go_upto_region 1 with (first | ((with_reducible refine gate_dst (N := 1) rfl ?_); refine Xbox 1 #[.int .i64 a0_0, .int .i64 a0_1, .slice A0_2 l0_2.length c0_2] 29 ?_; intro gb238 hg w3 hbox hb; have BK238 := Aside0.mk (hbox); have GE238 := Xge hg Xi; replace HB := Aside0.mk (below_step Xi hb); clear hb hbox hg))
 have H := HC2.out
 clear HC2
 obtain ⟨t239, A4, H⟩ := Xbi H
 (try dsimp only at H)
 by_cases c5 : t239 = true
 ·subst c5
  (first | rw [if_pos rfl] at H | skip)
  obtain ⟨t240, A6, H⟩ := Xbi H
  (try dsimp only at H)
  by_cases c7 : t240 = true
  ·subst c7
   (first | rw [if_pos rfl] at H | skip)
   obtain ⟨t241, A8, H⟩ := Xbi H
   (try dsimp only at H)
   by_cases c9 : t241 = true
   ·subst c9
    (first | rw [if_pos rfl] at H | skip)
    obtain ⟨t242, A10, H⟩ := Xbi H
    (try dsimp only at H)
    by_cases c11 : t242 = true
    ·subst c11
     (first | rw [if_pos rfl] at H | skip)
     obtain ⟨t243, A12, H⟩ := Xbi H
     (try dsimp only at H)
     obtain rfl := Option.some.inj H
     obtain ⟨hcz13_0, hcz13_1, hcz13_2⟩ := Xc3 BK238
     go_wp2_with (first | ((with_reducible refine gate_callee (f := 84) rfl ?_); refine Xgo 6 Try.func84 #[.int .i64 (l0_2.length : Int), .int .i64 1, .int .i64 40] ?_; (with_reducible refine (spec_l01In.calls (l0_2.length : Int) 1 40 true _ A4.out).mono ?_); rintro e w' ⟨rfl, ⟨nd, rfl⟩⟩; refine ⟨_, rfl, ?_⟩) | (go_at_call 84; (with_reducible refine (spec_l01In.calls a0_1 2 999999 true _ A6.out).mono ?_); rintro e w' ⟨rfl, ⟨nd, rfl⟩⟩) | (go_at_call 99; (with_reducible refine (spec_l02Nodes.calls k a0_0 a0_1 _ _ l0_2 true _ ?side1 ?side2 A8.out).mono ?_); (case side1 => exact Xc HR0_2); (case side2 => exact HC0_2.out); rintro e w14 ⟨rfl, hb⟩; replace BK238 := Xbb BK238 hb; replace HB := Aside0.mk (below_step Xi hb); clear hb; obtain ⟨hcz15_0, hcz15_1, hcz15_2⟩ := Xc3 BK238) | (go_at_call 100; (with_reducible refine (spec_l02Reach.calls k a0_0 a0_1 _ _ l0_2 true _ ?side1 ?side2 A10.out).mono ?_); (case side1 => exact Xc HR0_2); (case side2 => exact HC0_2.out); rintro e w16 ⟨rfl, hb⟩; replace BK238 := Xbb BK238 hb; replace HB := Aside0.mk (below_step Xi hb); clear hb; obtain ⟨hcz17_0, hcz17_1, hcz17_2⟩ := Xc3 BK238) | (go_at_call 96; (with_reducible refine (spec_l02Deep.calls k a0_0 a0_1 _ _ l0_2 a0_0 6 t243 _ ?side1 ?side2 A12.out).mono ?_); (case side1 => exact Xc HR0_2); (case side2 => exact HC0_2.out); rintro e w18 ⟨rfl, hb⟩; replace BK238 := Xbb BK238 hb; replace HB := Aside0.mk (below_step Xi hb); clear hb))
     go_ret
     exact ⟨Xe, Xi⟩
    ·replace c11 := Bool.eq_false_iff.mpr c11
     subst c11
     (first | rw [if_neg (show ¬ (false = true) by decide)] at H | skip)
     obtain rfl := Option.some.inj H
     obtain ⟨hcz19_0, hcz19_1, hcz19_2⟩ := Xc3 BK238
     go_wp2_with (first | ((with_reducible refine gate_callee (f := 84) rfl ?_); refine Xgo 6 Try.func84 #[.int .i64 (l0_2.length : Int), .int .i64 1, .int .i64 40] ?_; (with_reducible refine (spec_l01In.calls (l0_2.length : Int) 1 40 true _ A4.out).mono ?_); rintro e w' ⟨rfl, ⟨nd, rfl⟩⟩; refine ⟨_, rfl, ?_⟩) | (go_at_call 84; (with_reducible refine (spec_l01In.calls a0_1 2 999999 true _ A6.out).mono ?_); rintro e w' ⟨rfl, ⟨nd, rfl⟩⟩) | (go_at_call 99; (with_reducible refine (spec_l02Nodes.calls k a0_0 a0_1 _ _ l0_2 true _ ?side1 ?side2 A8.out).mono ?_); (case side1 => exact Xc HR0_2); (case side2 => exact HC0_2.out); rintro e w20 ⟨rfl, hb⟩; replace BK238 := Xbb BK238 hb; replace HB := Aside0.mk (below_step Xi hb); clear hb; obtain ⟨hcz21_0, hcz21_1, hcz21_2⟩ := Xc3 BK238) | (go_at_call 100; (with_reducible refine (spec_l02Reach.calls k a0_0 a0_1 _ _ l0_2 false _ ?side1 ?side2 A10.out).mono ?_); (case side1 => exact Xc HR0_2); (case side2 => exact HC0_2.out); rintro e w22 ⟨rfl, hb⟩; replace BK238 := Xbb BK238 hb; replace HB := Aside0.mk (below_step Xi hb); clear hb))
     go_ret
     exact ⟨Xe, Xi⟩
   ·replace c9 := Bool.eq_false_iff.mpr c9
    subst c9
    (first | rw [if_neg (show ¬ (false = true) by decide)] at H | skip)
    obtain rfl := Option.some.inj H
    obtain ⟨hcz23_0, hcz23_1, hcz23_2⟩ := Xc3 BK238
    go_wp2_with (first | ((with_reducible refine gate_callee (f := 84) rfl ?_); refine Xgo 6 Try.func84 #[.int .i64 (l0_2.length : Int), .int .i64 1, .int .i64 40] ?_; (with_reducible refine (spec_l01In.calls (l0_2.length : Int) 1 40 true _ A4.out).mono ?_); rintro e w' ⟨rfl, ⟨nd, rfl⟩⟩; refine ⟨_, rfl, ?_⟩) | (go_at_call 84; (with_reducible refine (spec_l01In.calls a0_1 2 999999 true _ A6.out).mono ?_); rintro e w' ⟨rfl, ⟨nd, rfl⟩⟩) | (go_at_call 99; (with_reducible refine (spec_l02Nodes.calls k a0_0 a0_1 _ _ l0_2 false _ ?side1 ?side2 A8.out).mono ?_); (case side1 => exact Xc HR0_2); (case side2 => exact HC0_2.out); rintro e w24 ⟨rfl, hb⟩; replace BK238 := Xbb BK238 hb; replace HB := Aside0.mk (below_step Xi hb); clear hb))
    go_ret
    exact ⟨Xe, Xi⟩
  ·replace c7 := Bool.eq_false_iff.mpr c7
   subst c7
   (first | rw [if_neg (show ¬ (false = true) by decide)] at H | skip)
   obtain rfl := Option.some.inj H
   obtain ⟨hcz25_0, hcz25_1, hcz25_2⟩ := Xc3 BK238
   go_wp2_with (first | ((with_reducible refine gate_callee (f := 84) rfl ?_); refine Xgo 6 Try.func84 #[.int .i64 (l0_2.length : Int), .int .i64 1, .int .i64 40] ?_; (with_reducible refine (spec_l01In.calls (l0_2.length : Int) 1 40 true _ A4.out).mono ?_); rintro e w' ⟨rfl, ⟨nd, rfl⟩⟩; refine ⟨_, rfl, ?_⟩) | (go_at_call 84; (with_reducible refine (spec_l01In.calls a0_1 2 999999 false _ A6.out).mono ?_); rintro e w' ⟨rfl, ⟨nd, rfl⟩⟩))
   go_ret
   exact ⟨Xe, Xi⟩
 ·replace c5 := Bool.eq_false_iff.mpr c5
  subst c5
  (first | rw [if_neg (show ¬ (false = true) by decide)] at H | skip)
  obtain rfl := Option.some.inj H
  obtain ⟨hcz26_0, hcz26_1, hcz26_2⟩ := Xc3 BK238
  go_wp2_with (first | ((with_reducible refine gate_callee (f := 84) rfl ?_); refine Xgo 6 Try.func84 #[.int .i64 (l0_2.length : Int), .int .i64 1, .int .i64 40] ?_; (with_reducible refine (spec_l01In.calls (l0_2.length : Int) 1 40 false _ A4.out).mono ?_); rintro e w' ⟨rfl, ⟨nd, rfl⟩⟩; refine ⟨_, rfl, ?_⟩))
  go_ret
  exact ⟨Xe, Xi⟩

/-! ### spec_l02Ask: function 56 -/
def spec_l02Ask.f (k : Nat) (a0_0 : Int) (a0_1 : Int) (l0_2 : List (S43)) (a1 : Int) : Option (Int) := (spec_l02OK.f k a0_0 a0_1 l0_2).bind fun t245 => (if t245 = true then ((spec_l02At.f k a0_0 a0_1 l0_2 a1).bind fun t246 => (if t246 < 0 then (some 5) else (some 0))) else (some 1))
set_option maxHeartbeats 8000000 in
set_option maxRecDepth 100000 in
theorem spec_l02Ask.calls (k : Nat) (a0_0 : Int) (a0_1 : Int) (A0_2 : Option Addr) (c0_2 : Nat) (l0_2 : List (S43)) (a1 : Int) (r : Int) (w : World) (hr0_2 : Kd.C k43 w A0_2 l0_2.length l0_2) (hc0_2 : l0_2.length ≤ c0_2) (h : spec_l02Ask.f k a0_0 a0_1 l0_2 a1 = some r) :
  Calls Try.prog 56 #[.agg #[.int .i64 a0_0, .int .i64 a0_1, .slice A0_2 l0_2.length c0_2], .int .i64 a1] w fun e w' => e = .returned (.int .i64 r) ∧ Below w.heap.size w w' := by
 have hu29 := Try.underlying29
 have HR0_2 := Aside0.mk hr0_2
 have HC0_2 := Aside0.mk hc0_2
 clear hr0_2 hc0_2
 have HB := Aside0.mk (Below.refl w.heap.size w)
 have H : ((spec_l02OK.f k a0_0 a0_1 l0_2).bind fun t245 => (if t245 = true then ((spec_l02At.f k a0_0 a0_1 l0_2 a1).bind fun t246 => (if t246 < 0 then (some 5) else (some 0))) else (some 1))) = some r := h
 clear h
 obtain ⟨t245, A3, H⟩ := Xbi H
 (try dsimp only at H)
 have HC4 := Aside0.mk H
 clear H
 go_enter Try.func56, Try.ntmps56
 go_upto_if 7 with (first | ((with_reducible refine gate_dst (N := 2) rfl ?_); refine Xbox 2 #[.int .i64 a0_0, .int .i64 a0_1, .slice A0_2 l0_2.length c0_2] 29 ?_; intro gb244 hg w5 hbox hb; have BK244 := Aside0.mk (hbox); have GE244 := Xge hg Xi; replace HB := Aside0.mk (below_step Xi hb); clear hb hbox hg; obtain ⟨hcz6_0, hcz6_1, hcz6_2⟩ := Xc3 BK244) | ((with_reducible refine gate_callee (f := 51) rfl ?_); refine Xgo 6 Try.func51 #[.agg #[.int .i64 a0_0, .int .i64 a0_1, .slice A0_2 l0_2.length c0_2]] ?_; (with_reducible refine (spec_l02OK.calls k a0_0 a0_1 _ _ l0_2 t245 _ ?side1 ?side2 A3.out).mono ?_); (case side1 => exact Xc HR0_2); (case side2 => exact HC0_2.out); rintro e w7 ⟨rfl, hb⟩; refine ⟨_, rfl, ?_⟩; replace BK244 := Xbb BK244 hb; replace HB := Aside0.mk (below_step Xi hb); clear hb))
 have H := HC4.out
 clear HC4
 by_cases c8 : t245 = true
 ·subst c8
  (first | rw [if_pos rfl] at H | skip)
  obtain ⟨t246, A9, H⟩ := Xbi H
  (try dsimp only at H)
  have HC10 := Aside0.mk H
  clear H
  obtain ⟨hcz11_0, hcz11_1, hcz11_2⟩ := Xc3 BK244
  go_upto_if 11 with (first | ((with_reducible refine gate_callee (f := 74) rfl ?_); refine Xgo 10 Try.func74 #[.agg #[.int .i64 a0_0, .int .i64 a0_1, .slice A0_2 l0_2.length c0_2], .int .i64 a1] ?_; (with_reducible refine (spec_l02At.calls k a0_0 a0_1 _ _ l0_2 a1 t246 _ ?side1 ?side2 A9.out).mono ?_); (case side1 => exact Xc HR0_2); (case side2 => exact HC0_2.out); rintro e w12 ⟨rfl, hb⟩; refine ⟨_, rfl, ?_⟩; replace BK244 := Xbb BK244 hb; replace HB := Aside0.mk (below_step Xi hb); clear hb))
  have H := HC10.out
  clear HC10
  obtain ⟨c13b0, H⟩ | ⟨c13b0, H⟩ := Xit H
  ·(first | rw [c13b0] | (simp only [i64_w, i32_w]; rw [c13b0]) | skip)
   obtain rfl := Option.some.inj H
   go_wp2
   go_ret
   exact ⟨Xe, Xi⟩
  ·(first | rw [c13b0] | (simp only [i64_w, i32_w]; rw [c13b0]) | skip)
   obtain rfl := Option.some.inj H
   go_wp2
   go_ret
   exact ⟨Xe, Xi⟩
 ·replace c8 := Bool.eq_false_iff.mpr c8
  subst c8
  (first | rw [if_neg (show ¬ (false = true) by decide)] at H | skip)
  obtain rfl := Option.some.inj H
  go_wp2
  go_ret
  exact ⟨Xe, Xi⟩

end Go.Proofs.Ytpdhccdmbdbdpaa.XA
