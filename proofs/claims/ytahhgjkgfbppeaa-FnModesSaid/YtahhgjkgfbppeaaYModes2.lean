/- Contracts of the program's functions: each Go function that is named below comes to what its Lean function says. Written by xprint.py (a program of this session's, over the kit's print). Conditions: each contract's own premises. -/
import Derived.Test.YtahhgjkgfbppeaaYModes0
import Derived.Test.YtahhgjkgfbppeaaYModes1
namespace Go.Proofs.Ytahhgjkgfbppeaa.XA
open Go.RowKit Go.Proofs.YtahhgjkgfbppeaaW.PrintWords Go.Proofs.YtahhgjkgfbppeaaW.PrintLast Go.Proofs.YtahhgjkgfbppeaaW.PrintMore XW
attribute [local go_sem] max2_int min2_int max_two min_two max_three min_three max_four min_four   -- for this text's walks alone
set_option linter.unusedVariables false
set_option linter.unusedSimpArgs false

/-! ### impl_IntentOf: function 38 -/
def impl_IntentOf.f (a0 : Int) : Option (Int × Int) := (impl_isMode.f a0 0).bind fun t116 => (if t116 = true then ((impl_intent.f a0).bind fun t117 => (some (t117, 0))) else (some (0, 19)))
set_option maxHeartbeats 8000000 in
set_option maxRecDepth 100000 in
theorem impl_IntentOf.calls (a0 : Int) (r1 : Int) (r2 : Int) (w : World) (h : impl_IntentOf.f a0 = some (r1, r2)) :
  Calls Try.prog 38 #[.int .i64 a0] w fun e w' => e = .returned (.tuple #[.int .i64 r1, .int .i64 r2]) ∧ Drawn0 w w' := by
 have H : ((impl_isMode.f a0 0).bind fun t116 => (if t116 = true then ((impl_intent.f a0).bind fun t117 => (some (t117, 0))) else (some (0, 19)))) = some (r1, r2) := h
 clear h
 obtain ⟨t116, A2, H⟩ := Xbi H
 (try dsimp only at H)
 have HC3 := Aside0.mk H
 clear H
 go_enter Try.func38, Try.ntmps38
 go_upto_if 6 with (first | ((with_reducible refine gate_callee (f := 95) rfl ?_); refine Xgo 5 Try.func95 #[.int .i64 a0, .int .i64 0] ?_; (with_reducible refine (impl_isMode.calls a0 0 t116 _ A2.out).mono ?_); rintro e w' ⟨rfl, ⟨nd, rfl⟩⟩; refine ⟨_, rfl, ?_⟩))
 have H := HC3.out
 clear HC3
 by_cases c4 : t116 = true
 ·subst c4
  (first | rw [if_pos rfl] at H | skip)
  obtain ⟨t117, A5, H⟩ := Xbi H
  (try dsimp only at H)
  simp only [Option.some.injEq, Prod.mk.injEq] at H
  obtain ⟨rfl, rfl⟩ := H
  go_wp2_with (first | ((with_reducible refine gate_callee (f := 100) rfl ?_); refine Xgo 8 Try.func100 #[.int .i64 a0] ?_; (with_reducible refine (impl_intent.calls a0 t117 _ A5.out).mono ?_); rintro e w' ⟨rfl, ⟨nd, rfl⟩⟩; refine ⟨_, rfl, ?_⟩))
  go_ret2
  exact ⟨Xr, Xdr⟩
 ·replace c4 := Bool.eq_false_iff.mpr c4
  subst c4
  (first | rw [if_neg (show ¬ (false = true) by decide)] at H | skip)
  simp only [Option.some.injEq, Prod.mk.injEq] at H
  obtain ⟨rfl, rfl⟩ := H
  go_wp2
  go_ret2
  exact ⟨Xr, Xdr⟩

/-! ### spec_l07Intent: function 101 -/
def spec_l07Intent.f (a0 : Int) : Option (Int) := if a0 = 0 then (some 0) else (if a0 = 1 then (some 1) else (if a0 = 3 then (some 1) else (some 2)))
set_option maxHeartbeats 8000000 in
set_option maxRecDepth 100000 in
theorem spec_l07Intent.calls (a0 : Int) (r : Int) (w : World) (h : spec_l07Intent.f a0 = some r) :
  Calls Try.prog 101 #[.int .i64 a0] w fun e w' => e = .returned (.int .i64 r) ∧ Drawn0 w w' := by
 have H : (if a0 = 0 then (some 0) else (if a0 = 1 then (some 1) else (if a0 = 3 then (some 1) else (some 2)))) = some r := h
 clear h
 obtain ⟨c2, H⟩ | ⟨c2, H⟩ := Xiu H
 ·have c2b0 : (a0 == 0) = true := beq_iff_eq.mpr c2
  have c2b1 : (a0 != 0) = false := bne_eq_false_iff_eq.mpr c2
  clear c2
  obtain rfl := Option.some.inj H
  go_enter Try.func101, Try.ntmps101
  go_wp2
  go_ret
  exact ⟨Xr, Xdr⟩
 ·have c2b0 : (a0 == 0) = false := beq_eq_false_iff_ne.mpr c2
  have c2b1 : (a0 != 0) = true := bne_iff_ne.mpr c2
  obtain ⟨c3, H⟩ | ⟨c3, H⟩ := Xiu H
  ·have c3b0 : (a0 == 1) = true := beq_iff_eq.mpr c3
   have c3b1 : (a0 != 1) = false := bne_eq_false_iff_eq.mpr c3
   clear c3
   obtain rfl := Option.some.inj H
   go_enter Try.func101, Try.ntmps101
   go_wp2
   go_ret
   exact ⟨Xr, Xdr⟩
  ·have c3b0 : (a0 == 1) = false := beq_eq_false_iff_ne.mpr c3
   have c3b1 : (a0 != 1) = true := bne_iff_ne.mpr c3
   obtain ⟨c4, H⟩ | ⟨c4, H⟩ := Xiu H
   ·have c4b0 : (a0 == 3) = true := beq_iff_eq.mpr c4
    have c4b1 : (a0 != 3) = false := bne_eq_false_iff_eq.mpr c4
    clear c4
    obtain rfl := Option.some.inj H
    go_enter Try.func101, Try.ntmps101
    go_wp2
    go_ret
    exact ⟨Xr, Xdr⟩
   ·have c4b0 : (a0 == 3) = false := beq_eq_false_iff_ne.mpr c4
    have c4b1 : (a0 != 3) = true := bne_iff_ne.mpr c4
    obtain rfl := Option.some.inj H
    go_enter Try.func101, Try.ntmps101
    go_wp2
    go_ret
    exact ⟨Xr, Xdr⟩

/-! ### spec_IntentOf: function 39 -/
def spec_IntentOf.f (a0 : Int) : Option (Int × Int) := (spec_l01In.f a0 0 5).bind fun t118 => (if t118 = true then ((spec_l07Intent.f a0).bind fun t119 => (some (t119, 0))) else (some (0, 19)))
set_option maxHeartbeats 8000000 in
set_option maxRecDepth 100000 in
theorem spec_IntentOf.calls (a0 : Int) (r1 : Int) (r2 : Int) (w : World) (h : spec_IntentOf.f a0 = some (r1, r2)) :
  Calls Try.prog 39 #[.int .i64 a0] w fun e w' => e = .returned (.tuple #[.int .i64 r1, .int .i64 r2]) ∧ Drawn0 w w' := by
 have H : ((spec_l01In.f a0 0 5).bind fun t118 => (if t118 = true then ((spec_l07Intent.f a0).bind fun t119 => (some (t119, 0))) else (some (0, 19)))) = some (r1, r2) := h
 clear h
 obtain ⟨t118, A2, H⟩ := Xbi H
 (try dsimp only at H)
 have HC3 := Aside0.mk H
 clear H
 go_enter Try.func39, Try.ntmps39
 go_upto_if 6 with (first | ((with_reducible refine gate_callee (f := 85) rfl ?_); refine Xgo 5 Try.func85 #[.int .i64 a0, .int .i64 0, .int .i64 5] ?_; (with_reducible refine (spec_l01In.calls a0 0 5 t118 _ A2.out).mono ?_); rintro e w' ⟨rfl, ⟨nd, rfl⟩⟩; refine ⟨_, rfl, ?_⟩))
 have H := HC3.out
 clear HC3
 by_cases c4 : t118 = true
 ·subst c4
  (first | rw [if_pos rfl] at H | skip)
  obtain ⟨t119, A5, H⟩ := Xbi H
  (try dsimp only at H)
  simp only [Option.some.injEq, Prod.mk.injEq] at H
  obtain ⟨rfl, rfl⟩ := H
  go_wp2_with (first | ((with_reducible refine gate_callee (f := 101) rfl ?_); refine Xgo 8 Try.func101 #[.int .i64 a0] ?_; (with_reducible refine (spec_l07Intent.calls a0 t119 _ A5.out).mono ?_); rintro e w' ⟨rfl, ⟨nd, rfl⟩⟩; refine ⟨_, rfl, ?_⟩))
  go_ret2
  exact ⟨Xr, Xdr⟩
 ·replace c4 := Bool.eq_false_iff.mpr c4
  subst c4
  (first | rw [if_neg (show ¬ (false = true) by decide)] at H | skip)
  simp only [Option.some.injEq, Prod.mk.injEq] at H
  obtain ⟨rfl, rfl⟩ := H
  go_wp2
  go_ret2
  exact ⟨Xr, Xdr⟩

/-! ### laws_FnModes: function 7 -/
mutual
def laws_FnModes.j0 : Nat → Bool → Option (Bool)
 | 0, _ => none
 | k + 1, x39 => if x39 = true then (some true) else (laws_FnModes.l0 k 0)
def laws_FnModes.l0 : Nat → Int → Option (Bool)
 | 0, _ => none
 | k + 1, x5 => if x5 ≤ 5 then (laws_FnModes.l1 k x5 0) else ((impl_Compatible.f 6 0).bind fun bt120 => (some (bt120.2 == 19)))
def laws_FnModes.l1 : Nat → Int → Int → Option (Bool)
 | 0, _, _ => none
 | k + 1, x5, x6 => if x6 ≤ 5 then ((impl_Compatible.f x5 x6).bind fun bt122 => ((impl_Compatible.f x6 x5).bind fun bt124 => ((spec_Compatible.f k x5 x6).bind fun bt126 => ((impl_JoinModes.f x5 x6).bind fun bt128 => ((impl_JoinModes.f x6 x5).bind fun bt130 => ((spec_JoinModes.f k x5 x6).bind fun bt132 => (if bt122.2 = 0 then (if bt124.2 = 0 then (if (bt122.1 != bt124.1) = true then (laws_FnModes.j3 k x5 x6 bt128.1 true) else (if (bt122.1 != bt126.1) = true then (laws_FnModes.j3 k x5 x6 bt128.1 true) else (if bt128.2 = 0 then (if bt130.2 = 0 then (if bt128.1 = bt130.1 then (laws_FnModes.j3 k x5 x6 bt128.1 (bt128.1 != bt132.1)) else (laws_FnModes.j3 k x5 x6 bt128.1 true)) else (laws_FnModes.j3 k x5 x6 bt128.1 true)) else (laws_FnModes.j3 k x5 x6 bt128.1 true)))) else (laws_FnModes.j3 k x5 x6 bt128.1 true)) else (laws_FnModes.j3 k x5 x6 bt128.1 true)))))))) else ((impl_IntentOf.f x5).bind fun bt140 => ((spec_IntentOf.f x5).bind fun bt142 => (if bt140.2 = 0 then (if bt140.1 = bt142.1 then (laws_FnModes.l0 k (wrap64 (x5 + 1))) else (some false)) else (some false))))
def laws_FnModes.j3 : Nat → Int → Int → Int → Bool → Option (Bool)
 | 0, _, _, _, _ => none
 | k + 1, x5, x6, x13, x117 => if x117 = true then (some false) else (laws_FnModes.l2 k x5 x6 x13 0)
def laws_FnModes.l2 : Nat → Int → Int → Int → Int → Option (Bool)
 | 0, _, _, _, _ => none
 | k + 1, x5, x6, x13, x19 => if x19 ≤ 5 then ((impl_Compatible.f x13 x19).bind fun bt134 => ((impl_Compatible.f x5 x19).bind fun bt136 => ((impl_Compatible.f x6 x19).bind fun bt138 => (if bt134.2 = 0 then (if bt136.2 = 0 then (if bt138.2 = 0 then (if bt134.1 = true then (if bt136.1 = true then (if bt138.1 = true then (laws_FnModes.l2 k x5 x6 x13 (wrap64 (x19 + 1))) else (some false)) else (some false)) else (if bt136.1 = true then (if bt138.1 = true then (if x13 = 4 then (laws_FnModes.l2 k x5 x6 x13 (wrap64 (x19 + 1))) else (some false)) else (laws_FnModes.l2 k x5 x6 x13 (wrap64 (x19 + 1)))) else (laws_FnModes.l2 k x5 x6 x13 (wrap64 (x19 + 1))))) else (some false)) else (some false)) else (some false))))) else (laws_FnModes.l1 k x5 (wrap64 (x6 + 1)))
end
def laws_FnModes.f (k : Nat) (l0 : List Int) (l1 : List Int) : Option (Bool) := if (l0.length : Int) > 1048576 then (laws_FnModes.j0 k true) else (laws_FnModes.j0 k (decide ((l1.length : Int) > 1048576)))
set_option maxHeartbeats 8000000 in
set_option maxRecDepth 100000 in
theorem laws_FnModes.calls (k : Nat) (A0 : Option Addr) (c0 : Nat) (l0 : List Int) (A1 : Option Addr) (c1 : Nat) (l1 : List Int) (r : Bool) (w : World) (hr0 : Kd.C (Kd.int .u8) w A0 l0.length l0) (hc0 : l0.length ≤ c0) (hr1 : Kd.C (Kd.int .u8) w A1 l1.length l1) (hc1 : l1.length ≤ c1) (h : laws_FnModes.f k l0 l1 = some r) :
  Calls Try.prog 7 #[.slice A0 l0.length c0, .slice A1 l1.length c1] w fun e w' => e = .returned (.bool r) ∧ Below w.heap.size w w' := by
 have HR0 := Aside0.mk hr0
 have HC0 := Aside0.mk hc0
 clear hr0 hc0
 have HR1 := Aside0.mk hr1
 have HC1 := Aside0.mk hc1
 clear hr1 hc1
 have HB := Aside0.mk (Below.refl w.heap.size w)
 have H : (if (l0.length : Int) > 1048576 then (laws_FnModes.j0 k true) else (laws_FnModes.j0 k (decide ((l1.length : Int) > 1048576)))) = some r := h
 clear h
 have HC3 := Aside0.mk H
 clear H
 go_enter Try.func7, Try.ntmps7
 go_upto_region 1 with (fail)
 go_cut [39] (fun v39 wc => ∃ (kq : Nat) (x39_2 : Bool), v39 = .bool x39_2 ∧ Aside0 (laws_FnModes.j0 kq x39_2 = some r) ∧ Aside0 (kq ≤ k) ∧ Aside0 (Below w.heap.size w wc))
 case first =>
  as_aux_lemma =>
   have H := HC3.out
   clear HC3
   obtain ⟨c4, H⟩ | ⟨c4, H⟩ := Xiu H
   ·have c4b0 : decide (1048576 < (l0.length : Int)) = true := decide_eq_true c4
    have c4b1 : decide (1048576 < l0.length) = true := decide_eq_true (by omega)
    clear c4
    (first | rw [c4b0] | (simp only [i64_w, i32_w]; rw [c4b0]) | skip)
    have H' := Aside0.mk H
    clear H
    go_wp2
    go_meet
    case rel => exact ⟨_, (true), Xr, H', Xko, ⟨Xi⟩⟩
   ·have c4b0 : decide (1048576 < (l0.length : Int)) = false := decide_eq_false c4
    have c4b1 : decide (1048576 < l0.length) = false := decide_eq_false (by omega)
    clear c4
    (first | rw [c4b0] | (simp only [i64_w, i32_w]; rw [c4b0]) | skip)
    have H' := Aside0.mk H
    clear H
    go_wp2
    go_meet
    case rel => exact ⟨_, (decide ((l1.length : Int) > 1048576)), Xr, H', Xko, ⟨Xi⟩⟩
 case rest =>
  as_aux_lemma =>
   clear HC3
   (try clear c1)
   obtain ⟨kq, x39_2, rfl, HA, HJ2, HB⟩ := hcut
   cases kq with
   | zero => cases HA.out
   | succ kj2 =>
    have H := HA.out
    clear HA
    simp only [laws_FnModes.j0] at H
    by_cases c5 : x39_2 = true
    ·subst c5
     (first | rw [if_pos rfl] at H | skip)
     obtain rfl := Option.some.inj H
     go_wp2
     go_ret
     exact ⟨Xe, Xi⟩
    ·replace c5 := Bool.eq_false_iff.mpr c5
     subst c5
     (first | rw [if_neg (show ¬ (false = true) by decide)] at H | skip)
     have H' := Aside0.mk H
     clear H
     go_wp2
     go_loopg [5] kj2 (fun kq v5 w' => ∃ (x5_2 : Int), v5 = .int .i64 x5_2 ∧ Aside0 (laws_FnModes.l0 kq x5_2 = some r) ∧ Aside0 (kq ≤ kj2) ∧ Aside0 (Below w.heap.size w w'))
     case atStart => exact ⟨(0), Xr, H', Xkr, ⟨Xi⟩⟩
     case round =>
      as_aux_lemma =>
       clear H'
       (try clear c1); (try clear c5)
       obtain ⟨x5_2, rfl, HA, HK2, HB⟩ := hrel
       cases gk with
       | zero => cases HA.out
       | succ k2 =>
        have H := HA.out
        clear HA
        simp only [laws_FnModes.l0] at H
        obtain ⟨c6b0, H⟩ | ⟨c6b0, H⟩ := Xit H
        ·have H' := Aside0.mk H
         clear H
         go_wp2
         go_loopg [6] k2 (fun kq v6 w' => ∃ (x6_3 : Int), v6 = .int .i64 x6_3 ∧ Aside0 (laws_FnModes.l1 kq x5_2 x6_3 = some r) ∧ Aside0 (kq ≤ k2) ∧ Aside0 (Below w.heap.size w w'))
         case atStart => exact ⟨(0), Xr, H', Xkr, ⟨Xi⟩⟩
         case round =>
          as_aux_lemma =>
           clear H'
           (try clear c1); (try clear c5); (try clear c6); (try clear c6b0)
           obtain ⟨x6_3, rfl, HA, HK3, HB⟩ := hrel
           cases gk with
           | zero => cases HA.out
           | succ k3 =>
            have H := HA.out
            clear HA
            simp only [laws_FnModes.l1] at H
            obtain ⟨c7b0, H⟩ | ⟨c7b0, H⟩ := Xit H
            ·replace H := Option.bind_eq_some_iff.mp H
             obtain ⟨⟨t122, t123⟩, A80, H⟩ := H
             (try dsimp only at H)
             have A8 := Aside0.mk A80
             clear A80
             replace H := Option.bind_eq_some_iff.mp H
             obtain ⟨⟨t124, t125⟩, A90, H⟩ := H
             (try dsimp only at H)
             have A9 := Aside0.mk A90
             clear A90
             replace H := Option.bind_eq_some_iff.mp H
             obtain ⟨⟨t126, t127⟩, A100, H⟩ := H
             (try dsimp only at H)
             have A10 := Aside0.mk A100
             clear A100
             replace H := Option.bind_eq_some_iff.mp H
             obtain ⟨⟨t128, t129⟩, A110, H⟩ := H
             (try dsimp only at H)
             have A11 := Aside0.mk A110
             clear A110
             replace H := Option.bind_eq_some_iff.mp H
             obtain ⟨⟨t130, t131⟩, A120, H⟩ := H
             (try dsimp only at H)
             have A12 := Aside0.mk A120
             clear A120
             replace H := Option.bind_eq_some_iff.mp H
             obtain ⟨⟨t132, t133⟩, A130, H⟩ := H
             (try dsimp only at H)
             have A13 := Aside0.mk A130
             clear A130
             have HC14 := Aside0.mk H
             clear H
             go_upto_region 15 with (first | ((with_reducible refine gate_callee (f := 34) rfl ?_); refine Xgo 51 Try.func34 #[.int .i64 x5_2, .int .i64 x6_3] ?_; (with_reducible refine (impl_Compatible.calls x5_2 x6_3 t122 t123 _ A8.out).mono ?_); rintro e w15 ⟨rfl, hb⟩; refine ⟨_, rfl, ?_⟩; replace HB := Aside0.mk (below_step Xi hb); clear hb) | ((with_reducible refine gate_callee (f := 34) rfl ?_); refine Xgo 57 Try.func34 #[.int .i64 x6_3, .int .i64 x5_2] ?_; (with_reducible refine (impl_Compatible.calls x6_3 x5_2 t124 t125 _ A9.out).mono ?_); rintro e w16 ⟨rfl, hb⟩; refine ⟨_, rfl, ?_⟩; replace HB := Aside0.mk (below_step Xi hb); clear hb) | ((with_reducible refine gate_callee (f := 35) rfl ?_); refine Xgo 63 Try.func35 #[.int .i64 x5_2, .int .i64 x6_3] ?_; (with_reducible refine (spec_Compatible.calls k3 x5_2 x6_3 t126 t127 _ A10.out).mono ?_); rintro e w17 ⟨rfl, hb⟩; refine ⟨_, rfl, ?_⟩; replace HB := Aside0.mk (below_step Xi hb); clear hb) | ((with_reducible refine gate_callee (f := 36) rfl ?_); refine Xgo 69 Try.func36 #[.int .i64 x5_2, .int .i64 x6_3] ?_; (with_reducible refine (impl_JoinModes.calls x5_2 x6_3 t128 t129 _ A11.out).mono ?_); rintro e w18 ⟨rfl, hb⟩; refine ⟨_, rfl, ?_⟩; replace HB := Aside0.mk (below_step Xi hb); clear hb) | ((with_reducible refine gate_callee (f := 36) rfl ?_); refine Xgo 75 Try.func36 #[.int .i64 x6_3, .int .i64 x5_2] ?_; (with_reducible refine (impl_JoinModes.calls x6_3 x5_2 t130 t131 _ A12.out).mono ?_); rintro e w19 ⟨rfl, hb⟩; refine ⟨_, rfl, ?_⟩; replace HB := Aside0.mk (below_step Xi hb); clear hb) | ((with_reducible refine gate_callee (f := 37) rfl ?_); refine Xgo 81 Try.func37 #[.int .i64 x5_2, .int .i64 x6_3] ?_; (with_reducible refine (spec_JoinModes.calls k3 x5_2 x6_3 t132 t133 _ A13.out).mono ?_); rintro e w20 ⟨rfl, hb⟩; refine ⟨_, rfl, ?_⟩; replace HB := Aside0.mk (below_step Xi hb); clear hb))
             (try simp only [XW.q0, XW.q1, XW.q2])
             go_cut [117] (fun v117 wc => ∃ (kq : Nat) (x117_13 : Bool), v117 = .bool x117_13 ∧ Aside0 (laws_FnModes.j3 kq x5_2 x6_3 t128 x117_13 = some r) ∧ Aside0 (kq ≤ k3) ∧ Aside0 (Below w.heap.size w wc))
             case first =>
              as_aux_lemma =>
               have H := HC14.out
               clear HC14
               obtain ⟨c21, H⟩ | ⟨c21, H⟩ := Xiu H
               ·have c21b0 : (t123 == 0) = true := beq_iff_eq.mpr c21
                have c21b1 : (t123 != 0) = false := bne_eq_false_iff_eq.mpr c21
                clear c21
                (first | rw [c21b0] | (simp only [i64_w, i32_w]; rw [c21b0]) | skip)
                obtain ⟨c22, H⟩ | ⟨c22, H⟩ := Xiu H
                ·have c22b0 : (t125 == 0) = true := beq_iff_eq.mpr c22
                 have c22b1 : (t125 != 0) = false := bne_eq_false_iff_eq.mpr c22
                 clear c22
                 obtain ⟨c23, H⟩ | ⟨c23, H⟩ := Xiu H
                 ·have c23b0 : (t122 != t124) = true := c23
                  (try (have c23b1 : decide (t122 = t124) = false := by simpa using c23))
                  (try (have c23b2 : (t122 == t124) = false := by simpa using c23))
                  (try (have c23b3 : ¬ (t122 = t124) := by simpa using c23))
                  (try (have c23b4 : ((!t122) == t124) = true := by revert c23; cases t122 <;> cases t124 <;> simp))
                  clear c23
                  have H' := Aside0.mk H
                  clear H
                  go_wp2
                  go_meet
                  case rel => exact ⟨_, (true), Xr, H', ⟨by have := HJ2.out; have := HK2.out; have := HK3.out; first | omega | exact Nat.le_refl _⟩, ⟨Xi⟩⟩
                 ·have c23b0 : (t122 != t124) = false := by simpa using c23
                  (try (have c23b1 : decide (t122 = t124) = true := by simpa using c23))
                  (try (have c23b2 : (t122 == t124) = true := by simpa using c23))
                  (try (have c23b3 : ((!t122) == t124) = false := by revert c23; cases t122 <;> cases t124 <;> simp))
                  clear c23
                  obtain ⟨c24, H⟩ | ⟨c24, H⟩ := Xiu H
                  ·have c24b0 : (t122 != t126) = true := c24
                   (try (have c24b1 : decide (t122 = t126) = false := by simpa using c24))
                   (try (have c24b2 : (t122 == t126) = false := by simpa using c24))
                   (try (have c24b3 : ¬ (t122 = t126) := by simpa using c24))
                   (try (have c24b4 : ((!t122) == t126) = true := by revert c24; cases t122 <;> cases t126 <;> simp))
                   clear c24
                   have H' := Aside0.mk H
                   clear H
                   go_wp2
                   go_meet
                   case rel => exact ⟨_, (true), Xr, H', ⟨by have := HJ2.out; have := HK2.out; have := HK3.out; first | omega | exact Nat.le_refl _⟩, ⟨Xi⟩⟩
                  ·have c24b0 : (t122 != t126) = false := by simpa using c24
                   (try (have c24b1 : decide (t122 = t126) = true := by simpa using c24))
                   (try (have c24b2 : (t122 == t126) = true := by simpa using c24))
                   (try (have c24b3 : ((!t122) == t126) = false := by revert c24; cases t122 <;> cases t126 <;> simp))
                   clear c24
                   obtain ⟨c25, H⟩ | ⟨c25, H⟩ := Xiu H
                   ·have c25b0 : (t129 == 0) = true := beq_iff_eq.mpr c25
                    have c25b1 : (t129 != 0) = false := bne_eq_false_iff_eq.mpr c25
                    clear c25
                    obtain ⟨c26, H⟩ | ⟨c26, H⟩ := Xiu H
                    ·have c26b0 : (t131 == 0) = true := beq_iff_eq.mpr c26
                     have c26b1 : (t131 != 0) = false := bne_eq_false_iff_eq.mpr c26
                     clear c26
                     obtain ⟨c27, H⟩ | ⟨c27, H⟩ := Xiu H
                     ·have c27b0 : (t128 == t130) = true := beq_iff_eq.mpr c27
                      have c27b1 : (t128 != t130) = false := bne_eq_false_iff_eq.mpr c27
                      clear c27
                      have H' := Aside0.mk H
                      clear H
                      go_wp2
                      go_meet
                      case rel => exact ⟨_, ((t128 != t132)), Xr, H', ⟨by have := HJ2.out; have := HK2.out; have := HK3.out; first | omega | exact Nat.le_refl _⟩, ⟨Xi⟩⟩
                     ·have c27b0 : (t128 == t130) = false := beq_eq_false_iff_ne.mpr c27
                      have c27b1 : (t128 != t130) = true := bne_iff_ne.mpr c27
                      have H' := Aside0.mk H
                      clear H
                      go_wp2
                      go_meet
                      case rel => exact ⟨_, (true), Xr, H', ⟨by have := HJ2.out; have := HK2.out; have := HK3.out; first | omega | exact Nat.le_refl _⟩, ⟨Xi⟩⟩
                    ·have c26b0 : (t131 == 0) = false := beq_eq_false_iff_ne.mpr c26
                     have c26b1 : (t131 != 0) = true := bne_iff_ne.mpr c26
                     have H' := Aside0.mk H
                     clear H
                     go_wp2
                     go_meet
                     case rel => exact ⟨_, (true), Xr, H', ⟨by have := HJ2.out; have := HK2.out; have := HK3.out; first | omega | exact Nat.le_refl _⟩, ⟨Xi⟩⟩
                   ·have c25b0 : (t129 == 0) = false := beq_eq_false_iff_ne.mpr c25
                    have c25b1 : (t129 != 0) = true := bne_iff_ne.mpr c25
                    have H' := Aside0.mk H
                    clear H
                    go_wp2
                    go_meet
                    case rel => exact ⟨_, (true), Xr, H', ⟨by have := HJ2.out; have := HK2.out; have := HK3.out; first | omega | exact Nat.le_refl _⟩, ⟨Xi⟩⟩
                ·have c22b0 : (t125 == 0) = false := beq_eq_false_iff_ne.mpr c22
                 have c22b1 : (t125 != 0) = true := bne_iff_ne.mpr c22
                 have H' := Aside0.mk H
                 clear H
                 go_wp2
                 go_meet
                 case rel => exact ⟨_, (true), Xr, H', ⟨by have := HJ2.out; have := HK2.out; have := HK3.out; first | omega | exact Nat.le_refl _⟩, ⟨Xi⟩⟩
               ·have c21b0 : (t123 == 0) = false := beq_eq_false_iff_ne.mpr c21
                have c21b1 : (t123 != 0) = true := bne_iff_ne.mpr c21
                (first | rw [c21b0] | (simp only [i64_w, i32_w]; rw [c21b0]) | skip)
                have H' := Aside0.mk H
                clear H
                go_wp2
                go_meet
                case rel => exact ⟨_, (true), Xr, H', ⟨by have := HJ2.out; have := HK2.out; have := HK3.out; first | omega | exact Nat.le_refl _⟩, ⟨Xi⟩⟩
             case rest =>
              as_aux_lemma =>
               clear HC14
               (try clear c1); (try clear c5); (try clear c6); (try clear c6b0); (try clear c7); (try clear c7b0)
               obtain ⟨kq, x117_13, rfl, HA, HJ13, HB⟩ := hcut
               cases kq with
               | zero => cases HA.out
               | succ kj13 =>
                have H := HA.out
                clear HA
                simp only [laws_FnModes.j3] at H
                by_cases c28 : x117_13 = true
                ·subst c28
                 (first | rw [if_pos rfl] at H | skip)
                 obtain rfl := Option.some.inj H
                 go_wp2
                 go_ret
                 exact ⟨Xe, Xi⟩
                ·replace c28 := Bool.eq_false_iff.mpr c28
                 subst c28
                 (first | rw [if_neg (show ¬ (false = true) by decide)] at H | skip)
                 have H' := Aside0.mk H
                 clear H
                 go_wp2
                 go_loopg [19] kj13 (fun kq v19 w' => ∃ (x19_5 : Int), v19 = .int .i64 x19_5 ∧ Aside0 (laws_FnModes.l2 kq x5_2 x6_3 t128 x19_5 = some r) ∧ Aside0 (kq ≤ kj13) ∧ Aside0 (Below w.heap.size w w'))
                 case atStart => exact ⟨(0), Xr, H', Xkr, ⟨Xi⟩⟩
                 case round =>
                  as_aux_lemma =>
                   clear H'
                   (try clear c1); (try clear c5); (try clear c6); (try clear c6b0); (try clear c7); (try clear c7b0); (try clear c28)
                   obtain ⟨x19_5, rfl, HA, HK5, HB⟩ := hrel
                   cases gk with
                   | zero => cases HA.out
                   | succ k5 =>
                    have H := HA.out
                    clear HA
                    simp only [laws_FnModes.l2] at H
                    obtain ⟨c29b0, H⟩ | ⟨c29b0, H⟩ := Xit H
                    ·replace H := Option.bind_eq_some_iff.mp H
                     obtain ⟨⟨t134, t135⟩, A300, H⟩ := H
                     (try dsimp only at H)
                     have A30 := Aside0.mk A300
                     clear A300
                     replace H := Option.bind_eq_some_iff.mp H
                     obtain ⟨⟨t136, t137⟩, A310, H⟩ := H
                     (try dsimp only at H)
                     have A31 := Aside0.mk A310
                     clear A310
                     replace H := Option.bind_eq_some_iff.mp H
                     obtain ⟨⟨t138, t139⟩, A320, H⟩ := H
                     (try dsimp only at H)
                     have A32 := Aside0.mk A320
                     clear A320
                     have HC33 := Aside0.mk H
                     clear H
                     go_upto_region 23 with (first | ((with_reducible refine gate_callee (f := 34) rfl ?_); refine Xgo 125 Try.func34 #[.int .i64 t128, .int .i64 x19_5] ?_; (with_reducible refine (impl_Compatible.calls t128 x19_5 t134 t135 _ A30.out).mono ?_); rintro e w34 ⟨rfl, hb⟩; refine ⟨_, rfl, ?_⟩; replace HB := Aside0.mk (below_step Xi hb); clear hb) | ((with_reducible refine gate_callee (f := 34) rfl ?_); refine Xgo 131 Try.func34 #[.int .i64 x5_2, .int .i64 x19_5] ?_; (with_reducible refine (impl_Compatible.calls x5_2 x19_5 t136 t137 _ A31.out).mono ?_); rintro e w35 ⟨rfl, hb⟩; refine ⟨_, rfl, ?_⟩; replace HB := Aside0.mk (below_step Xi hb); clear hb) | ((with_reducible refine gate_callee (f := 34) rfl ?_); refine Xgo 137 Try.func34 #[.int .i64 x6_3, .int .i64 x19_5] ?_; (with_reducible refine (impl_Compatible.calls x6_3 x19_5 t138 t139 _ A32.out).mono ?_); rintro e w36 ⟨rfl, hb⟩; refine ⟨_, rfl, ?_⟩; replace HB := Aside0.mk (below_step Xi hb); clear hb))
                     have H := HC33.out
                     clear HC33
                     obtain ⟨c37, H⟩ | ⟨c37, H⟩ := Xiu H
                     ·have c37b0 : (t135 == 0) = true := beq_iff_eq.mpr c37
                      have c37b1 : (t135 != 0) = false := bne_eq_false_iff_eq.mpr c37
                      clear c37
                      obtain ⟨c38, H⟩ | ⟨c38, H⟩ := Xiu H
                      ·have c38b0 : (t137 == 0) = true := beq_iff_eq.mpr c38
                       have c38b1 : (t137 != 0) = false := bne_eq_false_iff_eq.mpr c38
                       clear c38
                       obtain ⟨c39, H⟩ | ⟨c39, H⟩ := Xiu H
                       ·have c39b0 : (t139 == 0) = true := beq_iff_eq.mpr c39
                        have c39b1 : (t139 != 0) = false := bne_eq_false_iff_eq.mpr c39
                        clear c39
                        by_cases c40 : t134 = true
                        ·subst c40
                         (first | rw [if_pos rfl] at H | skip)
                         by_cases c41 : t136 = true
                         ·subst c41
                          (first | rw [if_pos rfl] at H | skip)
                          by_cases c42 : t138 = true
                          ·subst c42
                           (first | rw [if_pos rfl] at H | skip)
                           have H' := Aside0.mk H
                           clear H
                           go_wp2
                           go_roundg k5
                           case measure => have := HJ2.out; have := HK2.out; have := HK3.out; have := HJ13.out; have := HK5.out; omega
                           case rel => exact ⟨(wrap64 (x19_5 + 1)), Xr, H', ⟨by have := HJ2.out; have := HK2.out; have := HK3.out; have := HJ13.out; have := HK5.out; omega⟩, ⟨Xi⟩⟩
                          ·replace c42 := Bool.eq_false_iff.mpr c42
                           subst c42
                           (first | rw [if_neg (show ¬ (false = true) by decide)] at H | skip)
                           obtain rfl := Option.some.inj H
                           go_wp2
                           go_ret
                           exact ⟨Xe, Xi⟩
                         ·replace c41 := Bool.eq_false_iff.mpr c41
                          subst c41
                          (first | rw [if_neg (show ¬ (false = true) by decide)] at H | skip)
                          obtain rfl := Option.some.inj H
                          go_wp2
                          go_ret
                          exact ⟨Xe, Xi⟩
                        ·replace c40 := Bool.eq_false_iff.mpr c40
                         subst c40
                         (first | rw [if_neg (show ¬ (false = true) by decide)] at H | skip)
                         by_cases c43 : t136 = true
                         ·subst c43
                          (first | rw [if_pos rfl] at H | skip)
                          by_cases c44 : t138 = true
                          ·subst c44
                           (first | rw [if_pos rfl] at H | skip)
                           obtain ⟨c45, H⟩ | ⟨c45, H⟩ := Xiu H
                           ·have c45b0 : (t128 == 4) = true := beq_iff_eq.mpr c45
                            have c45b1 : (t128 != 4) = false := bne_eq_false_iff_eq.mpr c45
                            clear c45
                            have H' := Aside0.mk H
                            clear H
                            go_wp2
                            go_roundg k5
                            case measure => have := HJ2.out; have := HK2.out; have := HK3.out; have := HJ13.out; have := HK5.out; omega
                            case rel => exact ⟨(wrap64 (x19_5 + 1)), Xr, H', ⟨by have := HJ2.out; have := HK2.out; have := HK3.out; have := HJ13.out; have := HK5.out; omega⟩, ⟨Xi⟩⟩
                           ·have c45b0 : (t128 == 4) = false := beq_eq_false_iff_ne.mpr c45
                            have c45b1 : (t128 != 4) = true := bne_iff_ne.mpr c45
                            obtain rfl := Option.some.inj H
                            go_wp2
                            go_ret
                            exact ⟨Xe, Xi⟩
                          ·replace c44 := Bool.eq_false_iff.mpr c44
                           subst c44
                           (first | rw [if_neg (show ¬ (false = true) by decide)] at H | skip)
                           have H' := Aside0.mk H
                           clear H
                           go_wp2
                           go_roundg k5
                           case measure => have := HJ2.out; have := HK2.out; have := HK3.out; have := HJ13.out; have := HK5.out; omega
                           case rel => exact ⟨(wrap64 (x19_5 + 1)), Xr, H', ⟨by have := HJ2.out; have := HK2.out; have := HK3.out; have := HJ13.out; have := HK5.out; omega⟩, ⟨Xi⟩⟩
                         ·replace c43 := Bool.eq_false_iff.mpr c43
                          subst c43
                          (first | rw [if_neg (show ¬ (false = true) by decide)] at H | skip)
                          have H' := Aside0.mk H
                          clear H
                          go_wp2
                          go_roundg k5
                          case measure => have := HJ2.out; have := HK2.out; have := HK3.out; have := HJ13.out; have := HK5.out; omega
                          case rel => exact ⟨(wrap64 (x19_5 + 1)), Xr, H', ⟨by have := HJ2.out; have := HK2.out; have := HK3.out; have := HJ13.out; have := HK5.out; omega⟩, ⟨Xi⟩⟩
                       ·have c39b0 : (t139 == 0) = false := beq_eq_false_iff_ne.mpr c39
                        have c39b1 : (t139 != 0) = true := bne_iff_ne.mpr c39
                        obtain rfl := Option.some.inj H
                        go_wp2
                        go_ret
                        exact ⟨Xe, Xi⟩
                      ·have c38b0 : (t137 == 0) = false := beq_eq_false_iff_ne.mpr c38
                       have c38b1 : (t137 != 0) = true := bne_iff_ne.mpr c38
                       obtain rfl := Option.some.inj H
                       go_wp2
                       go_ret
                       exact ⟨Xe, Xi⟩
                     ·have c37b0 : (t135 == 0) = false := beq_eq_false_iff_ne.mpr c37
                      have c37b1 : (t135 != 0) = true := bne_iff_ne.mpr c37
                      obtain rfl := Option.some.inj H
                      go_wp2
                      go_ret
                      exact ⟨Xe, Xi⟩
                    ·have H' := Aside0.mk H
                     clear H
                     go_wp2
                     go_roundg k5
                     case measure => have := HJ2.out; have := HK2.out; have := HK3.out; have := HJ13.out; have := HK5.out; omega
                     case rel => exact ⟨(wrap64 (x6_3 + 1)), Xr, H', ⟨by have := HJ2.out; have := HK2.out; have := HK3.out; have := HJ13.out; have := HK5.out; omega⟩, ⟨Xi⟩⟩
            ·replace H := Option.bind_eq_some_iff.mp H
             obtain ⟨⟨t140, t141⟩, A460, H⟩ := H
             (try dsimp only at H)
             have A46 := Aside0.mk A460
             clear A460
             replace H := Option.bind_eq_some_iff.mp H
             obtain ⟨⟨t142, t143⟩, A470, H⟩ := H
             (try dsimp only at H)
             have A47 := Aside0.mk A470
             clear A470
             have HC48 := Aside0.mk H
             clear H
             go_upto_region 27 with (first | ((with_reducible refine gate_callee (f := 38) rfl ?_); refine Xgo 177 Try.func38 #[.int .i64 x5_2] ?_; (with_reducible refine (impl_IntentOf.calls x5_2 t140 t141 _ A46.out).mono ?_); rintro e w' ⟨rfl, ⟨nd, rfl⟩⟩; refine ⟨_, rfl, ?_⟩) | ((with_reducible refine gate_callee (f := 39) rfl ?_); refine Xgo 182 Try.func39 #[.int .i64 x5_2] ?_; (with_reducible refine (spec_IntentOf.calls x5_2 t142 t143 _ A47.out).mono ?_); rintro e w' ⟨rfl, ⟨nd, rfl⟩⟩; refine ⟨_, rfl, ?_⟩))
             have H := HC48.out
             clear HC48
             obtain ⟨c49, H⟩ | ⟨c49, H⟩ := Xiu H
             ·have c49b0 : (t141 == 0) = true := beq_iff_eq.mpr c49
              have c49b1 : (t141 != 0) = false := bne_eq_false_iff_eq.mpr c49
              clear c49
              obtain ⟨c50, H⟩ | ⟨c50, H⟩ := Xiu H
              ·have c50b0 : (t140 == t142) = true := beq_iff_eq.mpr c50
               have c50b1 : (t140 != t142) = false := bne_eq_false_iff_eq.mpr c50
               clear c50
               have H' := Aside0.mk H
               clear H
               go_wp2
               go_roundg k3
               case measure => have := HJ2.out; have := HK2.out; have := HK3.out; omega
               case rel => exact ⟨(wrap64 (x5_2 + 1)), Xr, H', ⟨by have := HJ2.out; have := HK2.out; have := HK3.out; omega⟩, ⟨Xi⟩⟩
              ·have c50b0 : (t140 == t142) = false := beq_eq_false_iff_ne.mpr c50
               have c50b1 : (t140 != t142) = true := bne_iff_ne.mpr c50
               obtain rfl := Option.some.inj H
               go_wp2
               go_ret
               exact ⟨Xe, Xi⟩
             ·have c49b0 : (t141 == 0) = false := beq_eq_false_iff_ne.mpr c49
              have c49b1 : (t141 != 0) = true := bne_iff_ne.mpr c49
              obtain rfl := Option.some.inj H
              go_wp2
              go_ret
              exact ⟨Xe, Xi⟩
        ·replace H := Option.bind_eq_some_iff.mp H
         obtain ⟨⟨t120, t121⟩, A510, H⟩ := H
         (try dsimp only at H)
         have A51 := Aside0.mk A510
         clear A510
         obtain rfl := Option.some.inj H
         go_wp2_with (first | ((with_reducible refine gate_callee (f := 34) rfl ?_); refine Xgo 193 Try.func34 #[.int .i64 6, .int .i64 0] ?_; (with_reducible refine (impl_Compatible.calls 6 0 t120 t121 _ A51.out).mono ?_); rintro e w52 ⟨rfl, hb⟩; refine ⟨_, rfl, ?_⟩; replace HB := Aside0.mk (below_step Xi hb); clear hb))
         go_ret
         exact ⟨Xe, Xi⟩

end Go.Proofs.Ytahhgjkgfbppeaa.XA
