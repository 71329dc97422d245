/- Contracts of the program's functions: each Go function that is named below comes to what its Lean function says. Written by xprint.py (a program of this session's, over the kit's print). Conditions: each contract's own premises. -/
import Derived.Test.YtfemohapampkiaaYCheckDoc0
import Derived.Test.YtfemohapampkiaaYCheckDoc4
import Derived.Test.YtfemohapampkiaaYCheckDoc8
namespace Go.Proofs.Ytfemohapampkiaa.XA
open Go.RowKit Go.Proofs.YtfemohapampkiaaW.PrintWords Go.Proofs.YtfemohapampkiaaW.PrintLast Go.Proofs.YtfemohapampkiaaW.PrintMore XW
attribute [local go_sem] max2_int min2_int max_two min_two max_three min_three max_four min_four   -- for this text's walks alone
set_option linter.unusedVariables false
set_option linter.unusedSimpArgs false

/-! ### spec_l03Rule: function 145 -/
mutual
def spec_l03Rule.j0 : Nat → Int → Bool → ByteArray → Bool → List (S111) → Option (Bool)
 | 0, _, _, _, _, _ => none
 | k + 1, x1, x30, x253000, x253001, x253002 => if x30 = true then (some false) else (spec_l03Rule.l0 k x1 0 x253000 x253001 x253002)
def spec_l03Rule.l0 : Nat → Int → Int → ByteArray → Bool → List (S111) → Option (Bool)
 | 0, _, _, _, _, _ => none
 | k + 1, x1, x5, x253000, x253001, x253002 => if x5 < (x253002.length : Int) then (if 0 ≤ x5 then ((spec_l03Term.f k ((rd_T111 x253002 x5).f0) ((rd_T111 x253002 x5).f1) x1).bind fun t255 => (if t255 = true then (spec_l03Rule.l0 k x1 (wrap64 (x5 + 1)) x253000 x253001 x253002) else (some false))) else (none)) else (some true)
end
def spec_l03Rule.f (k : Nat) (a0_0 : ByteArray) (a0_1 : Bool) (l0_2 : List (S111)) (a1 : Int) : Option (Bool) := (spec_l00Word.f k a0_0).bind fun t253 => (if t253 = true then (if a0_0.toList = ([116, 101, 120, 116] : List UInt8) then (spec_l03Rule.j0 k a1 true a0_0 a0_1 l0_2) else (if (l0_2.length : Int) > 4 then (spec_l03Rule.j0 k a1 true a0_0 a0_1 l0_2) else (if a0_1 = true then (spec_l03Rule.j0 k a1 (decide ((l0_2.length : Int) > 0)) a0_0 a0_1 l0_2) else (spec_l03Rule.j0 k a1 false a0_0 a0_1 l0_2)))) else (spec_l03Rule.j0 k a1 true a0_0 a0_1 l0_2))
set_option maxHeartbeats 8000000 in
set_option maxRecDepth 100000 in
theorem spec_l03Rule.calls (k : Nat) (a0_0 : ByteArray) (a0_1 : Bool) (A0_2 : Option Addr) (c0_2 : Nat) (l0_2 : List (S111)) (a1 : Int) (r : Bool) (w : World) (hr0_2 : Kd.C k111 w A0_2 l0_2.length l0_2) (hc0_2 : l0_2.length ≤ c0_2) (h : spec_l03Rule.f k a0_0 a0_1 l0_2 a1 = some r) :
  Calls Try.prog 145 #[.agg #[.string a0_0, .bool a0_1, .slice A0_2 l0_2.length c0_2], .int .i64 a1] w fun e w' => e = .returned (.bool r) ∧ Below w.heap.size w w' := by
 have hu120 := Try.underlying120
 have hu111 := Try.underlying111
 have HR0_2 := Aside0.mk hr0_2
 have HC0_2 := Aside0.mk hc0_2
 clear hr0_2 hc0_2
 have HB := Aside0.mk (Below.refl w.heap.size w)
 have H : ((spec_l00Word.f k a0_0).bind fun t253 => (if t253 = true then (if a0_0.toList = ([116, 101, 120, 116] : List UInt8) then (spec_l03Rule.j0 k a1 true a0_0 a0_1 l0_2) else (if (l0_2.length : Int) > 4 then (spec_l03Rule.j0 k a1 true a0_0 a0_1 l0_2) else (if a0_1 = true then (spec_l03Rule.j0 k a1 (decide ((l0_2.length : Int) > 0)) a0_0 a0_1 l0_2) else (spec_l03Rule.j0 k a1 false a0_0 a0_1 l0_2)))) else (spec_l03Rule.j0 k a1 true a0_0 a0_1 l0_2))) = some r := h
 clear h
 have HC3 := Aside0.mk H
 clear H
 go_enter Try.func145, Try.ntmps145
 go_upto_region 1 with (first | ((with_reducible refine gate_dst (N := 2) rfl ?_); (try (refine gate_guard (by rfl) ?_; dsimp only)); refine Xbox 2 #[.string a0_0, .bool a0_1, .slice A0_2 l0_2.length c0_2] 120 ?_; intro gb252 hg w4 hbox hb; have BK252 := Aside0.mk (hbox); have GE252 := Xge hg Xi; replace HB := Aside0.mk (below_step Xi hb); clear hb hbox hg))
 (try simp only [XW.q0, XW.q1, XW.q2])
 go_cut [30] (fun v30 wc => ∃ (kq : Nat) (x30_2 : Bool), v30 = .bool x30_2 ∧ Aside0 (spec_l03Rule.j0 kq a1 x30_2 a0_0 a0_1 l0_2 = some r) ∧ Aside0 (kq ≤ k) ∧ Aside0 (wc.heap[gb252]? = some (.cells #[.string a0_0, .bool a0_1, (.slice A0_2 l0_2.length c0_2)] 120 (0, 0))) ∧ Aside0 (Below w.heap.size w wc))
 case first =>
  have H := HC3.out
  clear HC3
  obtain ⟨t253, A5, H⟩ := Xbi H
  (try dsimp only at H)
  by_cases c6 : t253 = true
  ·subst c6
   (first | rw [if_pos rfl] at H | skip)
   obtain ⟨c7, H⟩ | ⟨c7, H⟩ := Xiu H
   ·have c7b0 : (a0_0.toList == ([116, 101, 120, 116] : List UInt8)) = true := beq_iff_eq.mpr c7
    have c7b1 : (a0_0.toList != ([116, 101, 120, 116] : List UInt8)) = false := bne_eq_false_iff_eq.mpr c7
    clear c7
    (first | rw [c7b0] | (simp only [i64_w, i32_w]; rw [c7b0]) | skip)
    have H' := Aside0.mk H
    clear H
    obtain ⟨hcz8_0, hcz8_1, hcz8_2⟩ := Xc3 BK252
    go_wp2_with (first | ((with_reducible refine gate_callee (f := 175) rfl ?_); refine Xgo 8 Try.func175 #[.string a0_0] ?_; (with_reducible refine (spec_l00Word.calls k a0_0 true _ A5.out).mono ?_); rintro e w' ⟨rfl, ⟨nd, rfl⟩⟩; refine ⟨_, rfl, ?_⟩))
    go_meet
    case rel => exact ⟨_, (true), Xr, H', Xko, BK252, ⟨Xi⟩⟩
   ·have c7b0 : (a0_0.toList == ([116, 101, 120, 116] : List UInt8)) = false := beq_eq_false_iff_ne.mpr c7
    have c7b1 : (a0_0.toList != ([116, 101, 120, 116] : List UInt8)) = true := bne_iff_ne.mpr c7
    (first | rw [c7b0] | (simp only [i64_w, i32_w]; rw [c7b0]) | skip)
    obtain ⟨c9, H⟩ | ⟨c9, H⟩ := Xiu H
    ·have c9b0 : decide (4 < (l0_2.length : Int)) = true := decide_eq_true c9
     have c9b1 : decide (4 < l0_2.length) = true := decide_eq_true (by omega)
     clear c9
     have H' := Aside0.mk H
     clear H
     obtain ⟨hcz10_0, hcz10_1, hcz10_2⟩ := Xc3 BK252
     go_wp2_with (first | ((with_reducible refine gate_callee (f := 175) rfl ?_); refine Xgo 8 Try.func175 #[.string a0_0] ?_; (with_reducible refine (spec_l00Word.calls k a0_0 true _ A5.out).mono ?_); rintro e w' ⟨rfl, ⟨nd, rfl⟩⟩; refine ⟨_, rfl, ?_⟩))
     go_meet
     case rel => exact ⟨_, (true), Xr, H', Xko, BK252, ⟨Xi⟩⟩
    ·have c9b0 : decide (4 < (l0_2.length : Int)) = false := decide_eq_false c9
     have c9b1 : decide (4 < l0_2.length) = false := decide_eq_false (by omega)
     clear c9
     by_cases c11 : a0_1 = true
     ·subst c11
      (first | rw [if_pos rfl] at H | skip)
      have H' := Aside0.mk H
      clear H
      obtain ⟨hcz12_0, hcz12_1, hcz12_2⟩ := Xc3 BK252
      go_wp2_with (first | ((with_reducible refine gate_callee (f := 175) rfl ?_); refine Xgo 8 Try.func175 #[.string a0_0] ?_; (with_reducible refine (spec_l00Word.calls k a0_0 true _ A5.out).mono ?_); rintro e w' ⟨rfl, ⟨nd, rfl⟩⟩; refine ⟨_, rfl, ?_⟩))
      go_meet
      case rel => exact ⟨_, (decide ((l0_2.length : Int) > 0)), Xr, H', Xko, BK252, ⟨Xi⟩⟩
     ·replace c11 := Bool.eq_false_iff.mpr c11
      subst c11
      (first | rw [if_neg (show ¬ (false = true) by decide)] at H | skip)
      have H' := Aside0.mk H
      clear H
      obtain ⟨hcz13_0, hcz13_1, hcz13_2⟩ := Xc3 BK252
      go_wp2_with (first | ((with_reducible refine gate_callee (f := 175) rfl ?_); refine Xgo 8 Try.func175 #[.string a0_0] ?_; (with_reducible refine (spec_l00Word.calls k a0_0 true _ A5.out).mono ?_); rintro e w' ⟨rfl, ⟨nd, rfl⟩⟩; refine ⟨_, rfl, ?_⟩))
      go_meet
      case rel => exact ⟨_, (false), Xr, H', Xko, BK252, ⟨Xi⟩⟩
  ·replace c6 := Bool.eq_false_iff.mpr c6
   subst c6
   (first | rw [if_neg (show ¬ (false = true) by decide)] at H | skip)
   have H' := Aside0.mk H
   clear H
   obtain ⟨hcz14_0, hcz14_1, hcz14_2⟩ := Xc3 BK252
   go_wp2_with (first | ((with_reducible refine gate_callee (f := 175) rfl ?_); refine Xgo 8 Try.func175 #[.string a0_0] ?_; (with_reducible refine (spec_l00Word.calls k a0_0 false _ A5.out).mono ?_); rintro e w' ⟨rfl, ⟨nd, rfl⟩⟩; refine ⟨_, rfl, ?_⟩))
   go_meet
   case rel => exact ⟨_, (true), Xr, H', Xko, BK252, ⟨Xi⟩⟩
 case rest =>
  clear HC3
  obtain ⟨kq, x30_2, rfl, HA, HJ2, BK252, HB⟩ := hcut
  cases kq with
  | zero => cases HA.out
  | succ kj2 =>
   have H := HA.out
   clear HA
   simp only [spec_l03Rule.j0] at H
   by_cases c15 : x30_2 = true
   ·subst c15
    (first | rw [if_pos rfl] at H | skip)
    obtain rfl := Option.some.inj H
    go_wp2
    go_ret
    exact ⟨Xe, Xi⟩
   ·replace c15 := Bool.eq_false_iff.mpr c15
    subst c15
    (first | rw [if_neg (show ¬ (false = true) by decide)] at H | skip)
    have H' := Aside0.mk H
    clear H
    go_wp2
    go_loopg [5] kj2 (fun kq v5 w' => ∃ (x5_2 : Int), v5 = .int .i64 x5_2 ∧ Aside0 (spec_l03Rule.l0 kq a1 x5_2 a0_0 a0_1 l0_2 = some r) ∧ Aside0 (kq ≤ kj2) ∧ Aside0 (w'.heap[gb252]? = some (.cells #[.string a0_0, .bool a0_1, (.slice A0_2 l0_2.length c0_2)] 120 (0, 0))) ∧ Aside0 (Below w.heap.size w w'))
    case atStart => exact ⟨(0), Xr, H', Xkr, BK252, ⟨Xi⟩⟩
    case round =>
     clear H'
     (try clear c15)
     obtain ⟨x5_2, rfl, HA, HK2, BK252, HB⟩ := hrel
     cases gk with
     | zero => cases HA.out
     | succ k2 =>
      have H := HA.out
      clear HA
      simp only [spec_l03Rule.l0] at H
      obtain ⟨c16b0, H⟩ | ⟨c16b0, H⟩ := Xit H
      ·obtain ⟨c17b0, H⟩ := Xid H
       obtain ⟨t255, A18, H⟩ := Xbi H
       (try dsimp only at H)
       have HC19 := Aside0.mk H
       clear H
       obtain ⟨hcz20_0, hcz20_1, hcz20_2⟩ := Xc3 BK252
       obtain ⟨ad254, A254_0, c254_0, e254, p254, q254, hx254_0, hx254_1, HC254_0, HR254_0⟩ := at_B111 HR0_2 x5_2 Xa Xa HB
       cases e254
       go_upto_if 45 with (first | ((with_reducible refine gate_callee (f := 140) rfl ?_); refine Xgo 44 Try.func140 #[.agg #[.slice A254_0 ((rd_T111 l0_2 x5_2).f0).length c254_0, .int .i64 ((rd_T111 l0_2 x5_2).f1)], .int .i64 a1] ?_; (with_reducible refine (spec_l03Term.calls k2 _ _ ((rd_T111 l0_2 x5_2).f0) ((rd_T111 l0_2 x5_2).f1) a1 t255 _ ?side1 ?side2 A18.out).mono ?_); (case side1 => exact Xc HR254_0); (case side2 => exact HC254_0.out); rintro e w21 ⟨rfl, hb⟩; refine ⟨_, rfl, ?_⟩; replace BK252 := Xbb BK252 hb; replace HB := Aside0.mk (below_step Xi hb); clear hb))
       have H := HC19.out
       clear HC19
       by_cases c22 : t255 = true
       ·subst c22
        (first | rw [if_pos rfl] at H | skip)
        have H' := Aside0.mk H
        clear H
        go_wp2
        go_roundg k2
        case measure => have := HJ2.out; have := HK2.out; omega
        case rel => exact ⟨(wrap64 (x5_2 + 1)), Xr, H', ⟨by have := HJ2.out; have := HK2.out; omega⟩, BK252, ⟨Xi⟩⟩
       ·replace c22 := Bool.eq_false_iff.mpr c22
        subst c22
        (first | rw [if_neg (show ¬ (false = true) by decide)] at H | skip)
        obtain rfl := Option.some.inj H
        go_wp2
        go_ret
        exact ⟨Xe, Xi⟩
      ·obtain rfl := Option.some.inj H
       obtain ⟨hcz23_0, hcz23_1, hcz23_2⟩ := Xc3 BK252
       go_wp2
       go_ret
       exact ⟨Xe, Xi⟩

/-! ### spec_l03OK: function 91 -/
mutual
def spec_l03OK.l0 : Nat → List (S120) → Int → Option (Bool)
 | 0, _, _ => none
 | k + 1, x0, x3 => if x3 < (x0.length : Int) then (if 0 ≤ x3 then ((spec_l03Rule.f k ((rd_T120 x0 x3).f0) ((rd_T120 x0 x3).f1) ((rd_T120 x0 x3).f2) (x0.length : Int)).bind fun t258 => (if t258 = true then (spec_l03OK.l1 k x0 x3 0) else (some false))) else (none)) else (some true)
def spec_l03OK.l1 : Nat → List (S120) → Int → Int → Option (Bool)
 | 0, _, _, _ => none
 | k + 1, x0, x3, x4 => if x4 < x3 then (if 0 ≤ x4 then (if x4 < (x0.length : Int) then (if 0 ≤ x3 then (if x3 < (x0.length : Int) then (if ((rd_T120 x0 x4).f0).toList = ((rd_T120 x0 x3).f0).toList then (some false) else (spec_l03OK.l1 k x0 x3 (wrap64 (x4 + 1)))) else (none)) else (none)) else (none)) else (none)) else (spec_l03OK.l0 k x0 (wrap64 (x3 + 1)))
end
def spec_l03OK.f (k : Nat) (l0 : List (S120)) : Option (Bool) := (spec_l01In.f (l0.length : Int) 1 8).bind fun t256 => (if t256 = true then (spec_l03OK.l0 k l0 0) else (some false))
set_option maxHeartbeats 8000000 in
set_option maxRecDepth 100000 in
theorem spec_l03OK.calls (k : Nat) (A0 : Option Addr) (c0 : Nat) (l0 : List (S120)) (r : Bool) (w : World) (hr0 : Kd.C k120 w A0 l0.length l0) (hc0 : l0.length ≤ c0) (h : spec_l03OK.f k l0 = some r) :
  Calls Try.prog 91 #[.slice A0 l0.length c0] w fun e w' => e = .returned (.bool r) ∧ Below w.heap.size w w' := by
 have hu120 := Try.underlying120
 have HR0 := Aside0.mk hr0
 have HC0 := Aside0.mk hc0
 clear hr0 hc0
 have HB := Aside0.mk (Below.refl w.heap.size w)
 have H : ((spec_l01In.f (l0.length : Int) 1 8).bind fun t256 => (if t256 = true then (spec_l03OK.l0 k l0 0) else (some false))) = some r := h
 clear h
 obtain ⟨t256, A2, H⟩ := Xbi H
 (try dsimp only at H)
 have HC3 := Aside0.mk H
 clear H
 go_enter Try.func91, Try.ntmps91
 go_upto_if 8 with (first | (go_at_call 116; (with_reducible refine (spec_l01In.calls (l0.length : Int) 1 8 t256 _ A2.out).mono ?_); rintro e w' ⟨rfl, ⟨nd, rfl⟩⟩; (try exact Xdd)))
 repeat (go_quiet (first | (go_at_call 116; (with_reducible refine (spec_l01In.calls (l0.length : Int) 1 8 t256 _ A2.out).mono ?_); rintro e w' ⟨rfl, ⟨nd, rfl⟩⟩; (try exact Xdd))); go_upto_if 8 with (first | (go_at_call 116; (with_reducible refine (spec_l01In.calls (l0.length : Int) 1 8 t256 _ A2.out).mono ?_); rintro e w' ⟨rfl, ⟨nd, rfl⟩⟩; (try exact Xdd))))
 have H := HC3.out
 clear HC3
 by_cases c4 : t256 = true
 ·subst c4
  (first | rw [if_pos rfl] at H | skip)
  have H' := Aside0.mk H
  clear H
  go_wp2
  repeat (go_quiet (fail); try go_wp2)
  go_loopg [3] k (fun kq v3 w' => ∃ (x3_1 : Int), v3 = .int .i64 x3_1 ∧ Aside0 (spec_l03OK.l0 kq l0 x3_1 = some r) ∧ Aside0 (kq ≤ k) ∧ Aside0 (Below w.heap.size w w'))
  case atStart => exact ⟨(0), Xr, H', Xkr, ⟨Xi⟩⟩
  case round =>
   clear H'
   (try clear c4)
   obtain ⟨x3_1, rfl, HA, HK1, HB⟩ := hrel
   cases gk with
   | zero => cases HA.out
   | succ k1 =>
    have H := HA.out
    clear HA
    simp only [spec_l03OK.l0] at H
    obtain ⟨c5b0, H⟩ | ⟨c5b0, H⟩ := Xit H
    ·(first | rw [c5b0] | (simp only [i64_w, i32_w]; rw [c5b0]) | skip)
     obtain ⟨c6b0, H⟩ := Xid H
     obtain ⟨t258, A7, H⟩ := Xbi H
     (try dsimp only at H)
     have HC8 := Aside0.mk H
     clear H
     obtain ⟨ad257, A257_2, c257_2, e257, p257, q257, hx257_0, hx257_1, hx257_2, HC257_2, HR257_2⟩ := at_B120 HR0 x3_1 Xa Xa HB
     cases e257
     go_upto_if 22 with (first | (go_at_call 145; (with_reducible refine (spec_l03Rule.calls k1 ((rd_T120 l0 x3_1).f0) ((rd_T120 l0 x3_1).f1) _ _ ((rd_T120 l0 x3_1).f2) (l0.length : Int) t258 _ ?side1 ?side2 A7.out).mono ?_); (case side1 => exact Xc HR257_2); (case side2 => exact HC257_2.out); rintro e w9 ⟨rfl, hb⟩; replace HB := Aside0.mk (below_step Xi hb); clear hb))
     repeat (go_quiet (first | (go_at_call 145; (with_reducible refine (spec_l03Rule.calls k1 ((rd_T120 l0 x3_1).f0) ((rd_T120 l0 x3_1).f1) _ _ ((rd_T120 l0 x3_1).f2) (l0.length : Int) t258 _ ?side1 ?side2 A7.out).mono ?_); (case side1 => exact Xc HR257_2); (case side2 => exact HC257_2.out); rintro e w9 ⟨rfl, hb⟩; replace HB := Aside0.mk (below_step Xi hb); clear hb)); go_upto_if 22 with (first | (go_at_call 145; (with_reducible refine (spec_l03Rule.calls k1 ((rd_T120 l0 x3_1).f0) ((rd_T120 l0 x3_1).f1) _ _ ((rd_T120 l0 x3_1).f2) (l0.length : Int) t258 _ ?side1 ?side2 A7.out).mono ?_); (case side1 => exact Xc HR257_2); (case side2 => exact HC257_2.out); rintro e w9 ⟨rfl, hb⟩; replace HB := Aside0.mk (below_step Xi hb); clear hb)))
     have H := HC8.out
     clear HC8
     by_cases c10 : t258 = true
     ·subst c10
      (first | rw [if_pos rfl] at H | skip)
      have H' := Aside0.mk H
      clear H
      go_wp2
      repeat (go_quiet (fail); try go_wp2)
      go_loopg [4] k1 (fun kq v4 w' => ∃ (x4_2 : Int), v4 = .int .i64 x4_2 ∧ Aside0 (spec_l03OK.l1 kq l0 x3_1 x4_2 = some r) ∧ Aside0 (kq ≤ k1) ∧ Aside0 (Below w.heap.size w w'))
      case atStart => exact ⟨(0), Xr, H', Xkr, ⟨Xi⟩⟩
      case round =>
       clear H'
       (try clear c4); (try clear c5); (try clear c5b0); (try clear c6); (try clear c6b0); (try clear c10); (try clear hx257_0); (try clear hx257_1); (try clear hx257_2); (try clear p257); (try clear q257)
       obtain ⟨x4_2, rfl, HA, HK2, HB⟩ := hrel
       cases gk with
       | zero => cases HA.out
       | succ k2 =>
        have H := HA.out
        clear HA
        simp only [spec_l03OK.l1] at H
        obtain ⟨c11b0, H⟩ | ⟨c11b0, H⟩ := Xit H
        ·(first | rw [c11b0] | (simp only [i64_w, i32_w]; rw [c11b0]) | skip)
         obtain ⟨c12b0, H⟩ := Xid H
         obtain ⟨c13b0, H⟩ := Xid H
         obtain ⟨c14b0, H⟩ := Xid H
         obtain ⟨c15b0, H⟩ := Xid H
         obtain ⟨c16, H⟩ | ⟨c16, H⟩ := Xiu H
         ·have c16b0 : (((rd_T120 l0 x4_2).f0).toList == ((rd_T120 l0 x3_1).f0).toList) = true := beq_iff_eq.mpr c16
          have c16b1 : (((rd_T120 l0 x4_2).f0).toList != ((rd_T120 l0 x3_1).f0).toList) = false := bne_eq_false_iff_eq.mpr c16
          clear c16
          obtain rfl := Option.some.inj H
          obtain ⟨ad259, A259_2, c259_2, e259, p259, q259, hx259_0, hx259_1, hx259_2, HC259_2, HR259_2⟩ := at_B120 HR0 x4_2 Xa Xa HB
          obtain rfl : ad257 = ad259 := (by injection e259)
          obtain ⟨ad260, A260_2, c260_2, e260, p260, q260, hx260_0, hx260_1, hx260_2, HC260_2, HR260_2⟩ := at_B120 HR0 x3_1 Xa Xa HB
          obtain rfl : ad257 = ad260 := (by injection e260)
          go_wp2
          repeat (go_quiet (fail); try go_wp2)
          go_ret
          exact ⟨Xe, Xi⟩
         ·have c16b0 : (((rd_T120 l0 x4_2).f0).toList == ((rd_T120 l0 x3_1).f0).toList) = false := beq_eq_false_iff_ne.mpr c16
          have c16b1 : (((rd_T120 l0 x4_2).f0).toList != ((rd_T120 l0 x3_1).f0).toList) = true := bne_iff_ne.mpr c16
          have H' := Aside0.mk H
          clear H
          obtain ⟨ad259, A259_2, c259_2, e259, p259, q259, hx259_0, hx259_1, hx259_2, HC259_2, HR259_2⟩ := at_B120 HR0 x4_2 Xa Xa HB
          obtain rfl : ad257 = ad259 := (by injection e259)
          obtain ⟨ad260, A260_2, c260_2, e260, p260, q260, hx260_0, hx260_1, hx260_2, HC260_2, HR260_2⟩ := at_B120 HR0 x3_1 Xa Xa HB
          obtain rfl : ad257 = ad260 := (by injection e260)
          go_wp2
          repeat (go_quiet (fail); try go_wp2)
          go_roundg k2
          case measure => have := HK1.out; have := HK2.out; omega
          case rel => exact ⟨(wrap64 (x4_2 + 1)), Xr, H', ⟨by have := HK1.out; have := HK2.out; omega⟩, ⟨Xi⟩⟩
        ·(first | rw [c11b0] | (simp only [i64_w, i32_w]; rw [c11b0]) | skip)
         have H' := Aside0.mk H
         clear H
         go_wp2
         repeat (go_quiet (fail); try go_wp2)
         go_roundg k2
         case measure => have := HK1.out; have := HK2.out; omega
         case rel => exact ⟨(wrap64 (x3_1 + 1)), Xr, H', ⟨by have := HK1.out; have := HK2.out; omega⟩, ⟨Xi⟩⟩
     ·replace c10 := Bool.eq_false_iff.mpr c10
      subst c10
      (first | rw [if_neg (show ¬ (false = true) by decide)] at H | skip)
      obtain rfl := Option.some.inj H
      go_wp2
      repeat (go_quiet (fail); try go_wp2)
      go_ret
      exact ⟨Xe, Xi⟩
    ·(first | rw [c5b0] | (simp only [i64_w, i32_w]; rw [c5b0]) | skip)
     obtain rfl := Option.some.inj H
     go_wp2
     repeat (go_quiet (fail); try go_wp2)
     go_ret
     exact ⟨Xe, Xi⟩
 ·replace c4 := Bool.eq_false_iff.mpr c4
  subst c4
  (first | rw [if_neg (show ¬ (false = true) by decide)] at H | skip)
  obtain rfl := Option.some.inj H
  go_wp2
  repeat (go_quiet (fail); try go_wp2)
  go_ret
  exact ⟨Xe, Xi⟩

end Go.Proofs.Ytfemohapampkiaa.XA
