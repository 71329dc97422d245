/- Contracts of the program's functions: each Go function that is named below comes to what its Lean function says. Written by xprint.py (a program of this session's, over the kit's print). Conditions: each contract's own premises. -/
import Derived.Test.YtahhgjkgfbppeaaYModes0
namespace Go.Proofs.Ytahhgjkgfbppeaa.XA
open Go.RowKit Go.Proofs.YtahhgjkgfbppeaaW.PrintWords Go.Proofs.YtahhgjkgfbppeaaW.PrintLast Go.Proofs.YtahhgjkgfbppeaaW.PrintMore XW
attribute [local go_sem] max2_int min2_int max_two min_two max_three min_three max_four min_four   -- for this text's walks alone
set_option linter.unusedVariables false
set_option linter.unusedSimpArgs false

/-! ### impl_within: function 81 -/
def impl_within.f (a0 : Int) (a1 : Int) (a2 : Int) : Option (Bool) := if a0 ≥ a1 then (some (decide (a0 ≤ a2))) else (some false)
set_option maxHeartbeats 8000000 in
set_option maxRecDepth 100000 in
theorem impl_within.calls (a0 : Int) (a1 : Int) (a2 : Int) (r : Bool) (w : World) (h : impl_within.f a0 a1 a2 = some r) :
  Calls Try.prog 81 #[.int .i64 a0, .int .i64 a1, .int .i64 a2] w fun e w' => e = .returned (.bool r) ∧ Drawn0 w w' := by
 have H : (if a0 ≥ a1 then (some (decide (a0 ≤ a2))) else (some false)) = some r := h
 clear h
 obtain ⟨c4, H⟩ | ⟨c4, H⟩ := Xiu H
 ·have c4b0 : decide (a1 ≤ a0) = true := decide_eq_true c4
  clear c4
  obtain rfl := Option.some.inj H
  go_enter Try.func81, Try.ntmps81
  go_wp2
  go_ret
  exact ⟨Xr, Xdr⟩
 ·have c4b0 : decide (a1 ≤ a0) = false := decide_eq_false c4
  clear c4
  obtain rfl := Option.some.inj H
  go_enter Try.func81, Try.ntmps81
  go_wp2
  go_ret
  exact ⟨Xr, Xdr⟩

/-! ### impl_isMode: function 95 -/
def impl_isMode.f (a0 : Int) (a1 : Int) : Option (Bool) := (impl_within.f a0 a1 5).bind fun t101 => (some t101)
set_option maxHeartbeats 8000000 in
set_option maxRecDepth 100000 in
theorem impl_isMode.calls (a0 : Int) (a1 : Int) (r : Bool) (w : World) (h : impl_isMode.f a0 a1 = some r) :
  Calls Try.prog 95 #[.int .i64 a0, .int .i64 a1] w fun e w' => e = .returned (.bool r) ∧ Drawn0 w w' := by
 have H : ((impl_within.f a0 a1 5).bind fun t101 => (some t101)) = some r := h
 clear h
 obtain ⟨t101, A3, H⟩ := Xbi H
 (try dsimp only at H)
 obtain rfl := Option.some.inj H
 go_enter Try.func95, Try.ntmps95
 go_wp2_with (first | ((with_reducible refine gate_callee (f := 81) rfl ?_); refine Xgo 7 Try.func81 #[.int .i64 a0, .int .i64 a1, .int .i64 5] ?_; (with_reducible refine (impl_within.calls a0 a1 5 t101 _ A3.out).mono ?_); rintro e w' ⟨rfl, ⟨nd, rfl⟩⟩; refine ⟨_, rfl, ?_⟩))
 go_ret
 exact ⟨Xr, Xdr⟩

/-! ### impl_compatible: function 96 -/
def impl_compatible.f (a0 : Int) (a1 : Int) : Option (Bool) := if (mn a0 a1) = 0 then (some true) else (if (mn a0 a1) = 1 then (some ((mx a0 a1) != 5)) else (if (mn a0 a1) = 2 then (some ((mx a0 a1) == 2)) else (if (mn a0 a1) = 3 then (some ((mx a0 a1) == 3)) else (some false))))
set_option maxHeartbeats 8000000 in
set_option maxRecDepth 100000 in
theorem impl_compatible.calls (a0 : Int) (a1 : Int) (r : Bool) (w : World) (h : impl_compatible.f a0 a1 = some r) :
  Calls Try.prog 96 #[.int .i64 a0, .int .i64 a1] w fun e w' => e = .returned (.bool r) ∧ Below w.heap.size w w' := by
 have HB := Aside0.mk (Below.refl w.heap.size w)
 have H : (if (mn a0 a1) = 0 then (some true) else (if (mn a0 a1) = 1 then (some ((mx a0 a1) != 5)) else (if (mn a0 a1) = 2 then (some ((mx a0 a1) == 2)) else (if (mn a0 a1) = 3 then (some ((mx a0 a1) == 3)) else (some false))))) = some r := h
 clear h
 obtain ⟨ji3, hji3⟩ : ∃ j_ : Int, (mn a0 a1) = j_ := ⟨_, rfl⟩
 replace H : (if (ji3) = 0 then (some true) else (if (ji3) = 1 then (some ((mx a0 a1) != 5)) else (if (ji3) = 2 then (some ((mx a0 a1) == 2)) else (if (ji3) = 3 then (some ((mx a0 a1) == 3)) else (some false))))) = some r := by first | (rw [hji3] at H; exact H) | (simp only [hji3] at H ⊢; exact H)
 have hji3_ : (if a1 < a0 then a1 else a0) = ji3 := hji3
 obtain ⟨ji4, hji4⟩ : ∃ j_ : Int, (mx a0 a1) = j_ := ⟨_, rfl⟩
 replace H : (if (ji3) = 0 then (some true) else (if (ji3) = 1 then (some ((ji4) != 5)) else (if (ji3) = 2 then (some ((ji4) == 2)) else (if (ji3) = 3 then (some ((ji4) == 3)) else (some false))))) = some r := by first | (rw [hji4] at H; exact H) | (simp only [hji4] at H ⊢; exact H)
 have hji4_ : (if a0 < a1 then a1 else a0) = ji4 := hji4
 obtain ⟨c5, H⟩ | ⟨c5, H⟩ := Xiu H
 ·have c5b0 : ((ji3) == 0) = true := beq_iff_eq.mpr c5
  have c5b1 : ((ji3) != 0) = false := bne_eq_false_iff_eq.mpr c5
  clear c5
  obtain rfl := Option.some.inj H
  go_enter Try.func96, Try.ntmps96
  go_wp2
  go_ret
  exact ⟨by first | rfl | (simp [errW_none, errW_some] <;> rfl) | (simp only [← hji3, ← hji4]; first | rfl | (simp [errW_none, errW_some] <;> rfl)) | (simp [*, errW_none, errW_some] <;> rfl), Xi⟩
 ·have c5b0 : ((ji3) == 0) = false := beq_eq_false_iff_ne.mpr c5
  have c5b1 : ((ji3) != 0) = true := bne_iff_ne.mpr c5
  obtain ⟨c6, H⟩ | ⟨c6, H⟩ := Xiu H
  ·have c6b0 : ((ji3) == 1) = true := beq_iff_eq.mpr c6
   have c6b1 : ((ji3) != 1) = false := bne_eq_false_iff_eq.mpr c6
   clear c6
   obtain rfl := Option.some.inj H
   go_enter Try.func96, Try.ntmps96
   go_wp2
   go_ret
   exact ⟨by first | rfl | (simp [errW_none, errW_some] <;> rfl) | (simp only [← hji3, ← hji4]; first | rfl | (simp [errW_none, errW_some] <;> rfl)) | (simp [*, errW_none, errW_some] <;> rfl), Xi⟩
  ·have c6b0 : ((ji3) == 1) = false := beq_eq_false_iff_ne.mpr c6
   have c6b1 : ((ji3) != 1) = true := bne_iff_ne.mpr c6
   obtain ⟨c7, H⟩ | ⟨c7, H⟩ := Xiu H
   ·have c7b0 : ((ji3) == 2) = true := beq_iff_eq.mpr c7
    have c7b1 : ((ji3) != 2) = false := bne_eq_false_iff_eq.mpr c7
    clear c7
    obtain rfl := Option.some.inj H
    go_enter Try.func96, Try.ntmps96
    go_wp2
    go_ret
    exact ⟨by first | rfl | (simp [errW_none, errW_some] <;> rfl) | (simp only [← hji3, ← hji4]; first | rfl | (simp [errW_none, errW_some] <;> rfl)) | (simp [*, errW_none, errW_some] <;> rfl), Xi⟩
   ·have c7b0 : ((ji3) == 2) = false := beq_eq_false_iff_ne.mpr c7
    have c7b1 : ((ji3) != 2) = true := bne_iff_ne.mpr c7
    obtain ⟨c8, H⟩ | ⟨c8, H⟩ := Xiu H
    ·have c8b0 : ((ji3) == 3) = true := beq_iff_eq.mpr c8
     have c8b1 : ((ji3) != 3) = false := bne_eq_false_iff_eq.mpr c8
     clear c8
     obtain rfl := Option.some.inj H
     go_enter Try.func96, Try.ntmps96
     go_wp2
     go_ret
     exact ⟨by first | rfl | (simp [errW_none, errW_some] <;> rfl) | (simp only [← hji3, ← hji4]; first | rfl | (simp [errW_none, errW_some] <;> rfl)) | (simp [*, errW_none, errW_some] <;> rfl), Xi⟩
    ·have c8b0 : ((ji3) == 3) = false := beq_eq_false_iff_ne.mpr c8
     have c8b1 : ((ji3) != 3) = true := bne_iff_ne.mpr c8
     obtain rfl := Option.some.inj H
     go_enter Try.func96, Try.ntmps96
     go_wp2
     go_ret
     exact ⟨by first | rfl | (simp [errW_none, errW_some] <;> rfl) | (simp only [← hji3, ← hji4]; first | rfl | (simp [errW_none, errW_some] <;> rfl)) | (simp [*, errW_none, errW_some] <;> rfl), Xi⟩

/-! ### impl_Compatible: function 34 -/
def impl_Compatible.f (a0 : Int) (a1 : Int) : Option (Bool × Int) := (impl_isMode.f a0 0).bind fun t102 => (if t102 = true then ((impl_isMode.f a1 0).bind fun t103 => (if t103 = true then ((impl_compatible.f a0 a1).bind fun t104 => (some (t104, 0))) else (some (false, 19)))) else (some (false, 19)))
set_option maxHeartbeats 8000000 in
set_option maxRecDepth 100000 in
theorem impl_Compatible.calls (a0 : Int) (a1 : Int) (r1 : Bool) (r2 : Int) (w : World) (h : impl_Compatible.f a0 a1 = some (r1, r2)) :
  Calls Try.prog 34 #[.int .i64 a0, .int .i64 a1] w fun e w' => e = .returned (.tuple #[.bool r1, .int .i64 r2]) ∧ Below w.heap.size w w' := by
 have HB := Aside0.mk (Below.refl w.heap.size w)
 have H : ((impl_isMode.f a0 0).bind fun t102 => (if t102 = true then ((impl_isMode.f a1 0).bind fun t103 => (if t103 = true then ((impl_compatible.f a0 a1).bind fun t104 => (some (t104, 0))) else (some (false, 19)))) else (some (false, 19)))) = some (r1, r2) := h
 clear h
 obtain ⟨t102, A3, H⟩ := Xbi H
 (try dsimp only at H)
 by_cases c4 : t102 = true
 ·subst c4
  (first | rw [if_pos rfl] at H | skip)
  obtain ⟨t103, A5, H⟩ := Xbi H
  (try dsimp only at H)
  have HC6 := Aside0.mk H
  clear H
  go_enter Try.func34, Try.ntmps34
  go_upto_if 13 with (first | ((with_reducible refine gate_callee (f := 95) rfl ?_); refine Xgo 7 Try.func95 #[.int .i64 a0, .int .i64 0] ?_; (with_reducible refine (impl_isMode.calls a0 0 true _ A3.out).mono ?_); rintro e w' ⟨rfl, ⟨nd, rfl⟩⟩; refine ⟨_, rfl, ?_⟩) | (go_at_call 95; (with_reducible refine (impl_isMode.calls a1 0 t103 _ A5.out).mono ?_); rintro e w' ⟨rfl, ⟨nd, rfl⟩⟩))
  have H := HC6.out
  clear HC6
  by_cases c7 : t103 = true
  ·subst c7
   (first | rw [if_pos rfl] at H | skip)
   obtain ⟨t104, A8, H⟩ := Xbi H
   (try dsimp only at H)
   simp only [Option.some.injEq, Prod.mk.injEq] at H
   obtain ⟨rfl, rfl⟩ := H
   go_wp2_with (first | ((with_reducible refine gate_callee (f := 96) rfl ?_); refine Xgo 16 Try.func96 #[.int .i64 a0, .int .i64 a1] ?_; (with_reducible refine (impl_compatible.calls a0 a1 t104 _ A8.out).mono ?_); rintro e w9 ⟨rfl, hb⟩; refine ⟨_, rfl, ?_⟩; replace HB := Aside0.mk (below_step Xi hb); clear hb))
   go_ret2
   exact ⟨Xe, Xi⟩
  ·replace c7 := Bool.eq_false_iff.mpr c7
   subst c7
   (first | rw [if_neg (show ¬ (false = true) by decide)] at H | skip)
   simp only [Option.some.injEq, Prod.mk.injEq] at H
   obtain ⟨rfl, rfl⟩ := H
   go_wp2
   go_ret2
   exact ⟨Xe, Xi⟩
 ·replace c4 := Bool.eq_false_iff.mpr c4
  subst c4
  (first | rw [if_neg (show ¬ (false = true) by decide)] at H | skip)
  simp only [Option.some.injEq, Prod.mk.injEq] at H
  obtain ⟨rfl, rfl⟩ := H
  go_enter Try.func34, Try.ntmps34
  go_wp2_with (first | ((with_reducible refine gate_callee (f := 95) rfl ?_); refine Xgo 7 Try.func95 #[.int .i64 a0, .int .i64 0] ?_; (with_reducible refine (impl_isMode.calls a0 0 false _ A3.out).mono ?_); rintro e w' ⟨rfl, ⟨nd, rfl⟩⟩; refine ⟨_, rfl, ?_⟩))
  go_ret2
  exact ⟨Xe, Xi⟩

/-! ### spec_l01In: function 85 -/
def spec_l01In.f (a0 : Int) (a1 : Int) (a2 : Int) : Option (Bool) := if a0 ≥ a1 then (some (decide (a0 ≤ a2))) else (some false)
set_option maxHeartbeats 8000000 in
set_option maxRecDepth 100000 in
theorem spec_l01In.calls (a0 : Int) (a1 : Int) (a2 : Int) (r : Bool) (w : World) (h : spec_l01In.f a0 a1 a2 = some r) :
  Calls Try.prog 85 #[.int .i64 a0, .int .i64 a1, .int .i64 a2] w fun e w' => e = .returned (.bool r) ∧ Drawn0 w w' := by
 have H : (if a0 ≥ a1 then (some (decide (a0 ≤ a2))) else (some false)) = some r := h
 clear h
 obtain ⟨c4, H⟩ | ⟨c4, H⟩ := Xiu H
 ·have c4b0 : decide (a1 ≤ a0) = true := decide_eq_true c4
  clear c4
  obtain rfl := Option.some.inj H
  go_enter Try.func85, Try.ntmps85
  go_wp2
  go_ret
  exact ⟨Xr, Xdr⟩
 ·have c4b0 : decide (a1 ≤ a0) = false := decide_eq_false c4
  clear c4
  obtain rfl := Option.some.inj H
  go_enter Try.func85, Try.ntmps85
  go_wp2
  go_ret
  exact ⟨Xr, Xdr⟩

/-! ### spec_l07Fits: function 97 -/
mutual
def spec_l07Fits.j0 : Nat → Int → Int → Bool → Option (Bool)
 | 0, _, _, _ => none
 | k + 1, x0, x1, x10 => if x10 = true then (some true) else (if x0 > x1 then ((spec_l07Fits.f k x1 x0).bind fun t105 => (some t105)) else (if x0 = 1 then (some (x1 != 5)) else (if x0 = 2 then (some (x1 == 2)) else (if x0 = 3 then (some (x1 == 3)) else (some false)))))
def spec_l07Fits.f : Nat → Int → Int → Option (Bool)
 | 0, _, _ => none
 | k + 1, a0, a1 => if a0 = 0 then (spec_l07Fits.j0 k a0 a1 true) else (spec_l07Fits.j0 k a0 a1 (a1 == 0))
end
set_option maxHeartbeats 8000000 in
set_option maxRecDepth 100000 in
theorem spec_l07Fits.calls (k : Nat) : ∀ (a0 : Int) (a1 : Int) (r : Bool) (w : World) (h : spec_l07Fits.f k a0 a1 = some r),
  Calls Try.prog 97 #[.int .i64 a0, .int .i64 a1] w fun e w' => e = .returned (.bool r) ∧ Below w.heap.size w w' := by
 induction k using Nat.strongRecOn with
 | _ k ih =>
 intro a0 a1 r w h
 cases k with
 | zero => exact absurd h (by simp [spec_l07Fits.f])
 | succ k =>
 simp only [spec_l07Fits.f] at h
 have HB := Aside0.mk (Below.refl w.heap.size w)
 have H : (if a0 = 0 then (spec_l07Fits.j0 k a0 a1 true) else (spec_l07Fits.j0 k a0 a1 (a1 == 0))) = some r := h
 clear h
 have HC3 := Aside0.mk H
 clear H
 go_enter Try.func97, Try.ntmps97
 go_upto_region 1 with (fail)
 go_cut [10] (fun v10 wc => ∃ (kq : Nat) (x10_2 : Bool), v10 = .bool x10_2 ∧ Aside0 (spec_l07Fits.j0 kq a0 a1 x10_2 = some r) ∧ Aside0 (kq ≤ k) ∧ Aside0 (Below w.heap.size w wc))
 case first =>
  have H := HC3.out
  clear HC3
  obtain ⟨c4, H⟩ | ⟨c4, H⟩ := Xiu H
  ·have c4b0 : (a0 == 0) = true := beq_iff_eq.mpr c4
   have c4b1 : (a0 != 0) = false := bne_eq_false_iff_eq.mpr c4
   clear c4
   (first | rw [c4b0] | (simp only [i64_w, i32_w]; rw [c4b0]) | skip)
   have H' := Aside0.mk H
   clear H
   go_wp2
   go_meet
   case rel => exact ⟨_, (true), Xr, H', Xko, ⟨Xi⟩⟩
  ·have c4b0 : (a0 == 0) = false := beq_eq_false_iff_ne.mpr c4
   have c4b1 : (a0 != 0) = true := bne_iff_ne.mpr c4
   (first | rw [c4b0] | (simp only [i64_w, i32_w]; rw [c4b0]) | skip)
   have H' := Aside0.mk H
   clear H
   go_wp2
   go_meet
   case rel => exact ⟨_, ((a1 == 0)), Xr, H', Xko, ⟨Xi⟩⟩
 case rest =>
  clear HC3
  obtain ⟨kq, x10_2, rfl, HA, HJ2, HB⟩ := hcut
  cases kq with
  | zero => cases HA.out
  | succ kj2 =>
   have H := HA.out
   clear HA
   simp only [spec_l07Fits.j0] at H
   by_cases c5 : x10_2 = true
   ·subst c5
    (first | rw [if_pos rfl] at H | skip)
    obtain rfl := Option.some.inj H
    go_wp2
    go_ret
    exact ⟨Xe, Xi⟩
   ·replace c5 := Bool.eq_false_iff.mpr c5
    subst c5
    (first | rw [if_neg (show ¬ (false = true) by decide)] at H | skip)
    obtain ⟨c6, H⟩ | ⟨c6, H⟩ := Xiu H
    ·have c6b0 : decide (a1 < a0) = true := decide_eq_true c6
     clear c6
     obtain ⟨t105, A7, H⟩ := Xbi H
     (try dsimp only at H)
     obtain rfl := Option.some.inj H
     go_wp2_with (first | ((with_reducible refine gate_callee (f := 97) rfl ?_); refine Xgo 16 Try.func97 #[.int .i64 a1, .int .i64 a0] ?_; (with_reducible refine (ih kj2 (by have := HJ2.out; omega) a1 a0 t105 _ A7.out).mono ?_); rintro e w8 ⟨rfl, hb⟩; refine ⟨_, rfl, ?_⟩; replace HB := Aside0.mk (below_step Xi hb); clear hb))
     go_ret
     exact ⟨Xe, Xi⟩
    ·have c6b0 : decide (a1 < a0) = false := decide_eq_false c6
     clear c6
     obtain ⟨c9, H⟩ | ⟨c9, H⟩ := Xiu H
     ·have c9b0 : (a0 == 1) = true := beq_iff_eq.mpr c9
      have c9b1 : (a0 != 1) = false := bne_eq_false_iff_eq.mpr c9
      clear c9
      obtain rfl := Option.some.inj H
      go_wp2
      go_ret
      exact ⟨Xe, Xi⟩
     ·have c9b0 : (a0 == 1) = false := beq_eq_false_iff_ne.mpr c9
      have c9b1 : (a0 != 1) = true := bne_iff_ne.mpr c9
      obtain ⟨c10, H⟩ | ⟨c10, H⟩ := Xiu H
      ·have c10b0 : (a0 == 2) = true := beq_iff_eq.mpr c10
       have c10b1 : (a0 != 2) = false := bne_eq_false_iff_eq.mpr c10
       clear c10
       obtain rfl := Option.some.inj H
       go_wp2
       go_ret
       exact ⟨Xe, Xi⟩
      ·have c10b0 : (a0 == 2) = false := beq_eq_false_iff_ne.mpr c10
       have c10b1 : (a0 != 2) = true := bne_iff_ne.mpr c10
       obtain ⟨c11, H⟩ | ⟨c11, H⟩ := Xiu H
       ·have c11b0 : (a0 == 3) = true := beq_iff_eq.mpr c11
        have c11b1 : (a0 != 3) = false := bne_eq_false_iff_eq.mpr c11
        clear c11
        obtain rfl := Option.some.inj H
        go_wp2
        go_ret
        exact ⟨Xe, Xi⟩
       ·have c11b0 : (a0 == 3) = false := beq_eq_false_iff_ne.mpr c11
        have c11b1 : (a0 != 3) = true := bne_iff_ne.mpr c11
        obtain rfl := Option.some.inj H
        go_wp2
        go_ret
        exact ⟨Xe, Xi⟩

/-! ### spec_Compatible: function 35 -/
def spec_Compatible.f (k : Nat) (a0 : Int) (a1 : Int) : Option (Bool × Int) := (spec_l01In.f a0 0 5).bind fun t106 => (if t106 = true then ((spec_l01In.f a1 0 5).bind fun t107 => (if t107 = true then ((spec_l07Fits.f k a0 a1).bind fun t108 => (some (t108, 0))) else (some (false, 19)))) else (some (false, 19)))
set_option maxHeartbeats 8000000 in
set_option maxRecDepth 100000 in
theorem spec_Compatible.calls (k : Nat) (a0 : Int) (a1 : Int) (r1 : Bool) (r2 : Int) (w : World) (h : spec_Compatible.f k a0 a1 = some (r1, r2)) :
  Calls Try.prog 35 #[.int .i64 a0, .int .i64 a1] w fun e w' => e = .returned (.tuple #[.bool r1, .int .i64 r2]) ∧ Below w.heap.size w w' := by
 have HB := Aside0.mk (Below.refl w.heap.size w)
 have H : ((spec_l01In.f a0 0 5).bind fun t106 => (if t106 = true then ((spec_l01In.f a1 0 5).bind fun t107 => (if t107 = true then ((spec_l07Fits.f k a0 a1).bind fun t108 => (some (t108, 0))) else (some (false, 19)))) else (some (false, 19)))) = some (r1, r2) := h
 clear h
 obtain ⟨t106, A3, H⟩ := Xbi H
 (try dsimp only at H)
 by_cases c4 : t106 = true
 ·subst c4
  (first | rw [if_pos rfl] at H | skip)
  obtain ⟨t107, A5, H⟩ := Xbi H
  (try dsimp only at H)
  have HC6 := Aside0.mk H
  clear H
  go_enter Try.func35, Try.ntmps35
  go_upto_if 13 with (first | ((with_reducible refine gate_callee (f := 85) rfl ?_); refine Xgo 7 Try.func85 #[.int .i64 a0, .int .i64 0, .int .i64 5] ?_; (with_reducible refine (spec_l01In.calls a0 0 5 true _ A3.out).mono ?_); rintro e w' ⟨rfl, ⟨nd, rfl⟩⟩; refine ⟨_, rfl, ?_⟩) | (go_at_call 85; (with_reducible refine (spec_l01In.calls a1 0 5 t107 _ A5.out).mono ?_); rintro e w' ⟨rfl, ⟨nd, rfl⟩⟩))
  have H := HC6.out
  clear HC6
  by_cases c7 : t107 = true
  ·subst c7
   (first | rw [if_pos rfl] at H | skip)
   obtain ⟨t108, A8, H⟩ := Xbi H
   (try dsimp only at H)
   simp only [Option.some.injEq, Prod.mk.injEq] at H
   obtain ⟨rfl, rfl⟩ := H
   go_wp2_with (first | ((with_reducible refine gate_callee (f := 97) rfl ?_); refine Xgo 16 Try.func97 #[.int .i64 a0, .int .i64 a1] ?_; (with_reducible refine (spec_l07Fits.calls k a0 a1 t108 _ A8.out).mono ?_); rintro e w9 ⟨rfl, hb⟩; refine ⟨_, rfl, ?_⟩; replace HB := Aside0.mk (below_step Xi hb); clear hb))
   go_ret2
   exact ⟨Xe, Xi⟩
  ·replace c7 := Bool.eq_false_iff.mpr c7
   subst c7
   (first | rw [if_neg (show ¬ (false = true) by decide)] at H | skip)
   simp only [Option.some.injEq, Prod.mk.injEq] at H
   obtain ⟨rfl, rfl⟩ := H
   go_wp2
   go_ret2
   exact ⟨Xe, Xi⟩
 ·replace c4 := Bool.eq_false_iff.mpr c4
  subst c4
  (first | rw [if_neg (show ¬ (false = true) by decide)] at H | skip)
  simp only [Option.some.injEq, Prod.mk.injEq] at H
  obtain ⟨rfl, rfl⟩ := H
  go_enter Try.func35, Try.ntmps35
  go_wp2_with (first | ((with_reducible refine gate_callee (f := 85) rfl ?_); refine Xgo 7 Try.func85 #[.int .i64 a0, .int .i64 0, .int .i64 5] ?_; (with_reducible refine (spec_l01In.calls a0 0 5 false _ A3.out).mono ?_); rintro e w' ⟨rfl, ⟨nd, rfl⟩⟩; refine ⟨_, rfl, ?_⟩))
  go_ret2
  exact ⟨Xe, Xi⟩

/-! ### impl_joined: function 98 -/
def impl_joined.f (a0 : Int) (a1 : Int) : Option (Int) := if (mn a0 a1) = 2 then (if (mx a0 a1) = 3 then (some 4) else (some (mx a0 a1))) else (some (mx a0 a1))
set_option maxHeartbeats 8000000 in
set_option maxRecDepth 100000 in
theorem impl_joined.calls (a0 : Int) (a1 : Int) (r : Int) (w : World) (h : impl_joined.f a0 a1 = some r) :
  Calls Try.prog 98 #[.int .i64 a0, .int .i64 a1] w fun e w' => e = .returned (.int .i64 r) ∧ Below w.heap.size w w' := by
 have HB := Aside0.mk (Below.refl w.heap.size w)
 have H : (if (mn a0 a1) = 2 then (if (mx a0 a1) = 3 then (some 4) else (some (mx a0 a1))) else (some (mx a0 a1))) = some r := h
 clear h
 obtain ⟨ji3, hji3⟩ : ∃ j_ : Int, (mn a0 a1) = j_ := ⟨_, rfl⟩
 replace H : (if (ji3) = 2 then (if (mx a0 a1) = 3 then (some 4) else (some (mx a0 a1))) else (some (mx a0 a1))) = some r := by first | (rw [hji3] at H; exact H) | (simp only [hji3] at H ⊢; exact H)
 have hji3_ : (if a1 < a0 then a1 else a0) = ji3 := hji3
 obtain ⟨c4, H⟩ | ⟨c4, H⟩ := Xiu H
 ·have c4b0 : ((ji3) == 2) = true := beq_iff_eq.mpr c4
  have c4b1 : ((ji3) != 2) = false := bne_eq_false_iff_eq.mpr c4
  clear c4
  obtain ⟨ji5, hji5⟩ : ∃ j_ : Int, (mx a0 a1) = j_ := ⟨_, rfl⟩
  replace H : (if (ji5) = 3 then (some 4) else (some ji5)) = some r := by first | (rw [hji5] at H; exact H) | (simp only [hji5] at H ⊢; exact H)
  have hji5_ : (if a0 < a1 then a1 else a0) = ji5 := hji5
  obtain ⟨c6, H⟩ | ⟨c6, H⟩ := Xiu H
  ·have c6b0 : ((ji5) == 3) = true := beq_iff_eq.mpr c6
   have c6b1 : ((ji5) != 3) = false := bne_eq_false_iff_eq.mpr c6
   clear c6
   obtain rfl := Option.some.inj H
   go_enter Try.func98, Try.ntmps98
   go_wp2
   go_ret
   exact ⟨by first | rfl | (simp [errW_none, errW_some] <;> rfl) | (simp only [← hji3, ← hji5]; first | rfl | (simp [errW_none, errW_some] <;> rfl)) | (simp [*, errW_none, errW_some] <;> rfl), Xi⟩
  ·have c6b0 : ((ji5) == 3) = false := beq_eq_false_iff_ne.mpr c6
   have c6b1 : ((ji5) != 3) = true := bne_iff_ne.mpr c6
   obtain rfl := Option.some.inj H
   go_enter Try.func98, Try.ntmps98
   go_wp2
   go_ret
   exact ⟨by first | rfl | (simp [errW_none, errW_some] <;> rfl) | (simp only [← hji3, ← hji5]; first | rfl | (simp [errW_none, errW_some] <;> rfl)) | (simp [*, errW_none, errW_some] <;> rfl), Xi⟩
 ·have c4b0 : ((ji3) == 2) = false := beq_eq_false_iff_ne.mpr c4
  have c4b1 : ((ji3) != 2) = true := bne_iff_ne.mpr c4
  obtain ⟨ji7, hji7⟩ : ∃ j_ : Int, (mx a0 a1) = j_ := ⟨_, rfl⟩
  replace H : (some ji7) = some r := by first | (rw [hji7] at H; exact H) | (simp only [hji7] at H ⊢; exact H)
  have hji7_ : (if a0 < a1 then a1 else a0) = ji7 := hji7
  obtain rfl := Option.some.inj H
  go_enter Try.func98, Try.ntmps98
  go_wp2
  go_ret
  exact ⟨by first | rfl | (simp [errW_none, errW_some] <;> rfl) | (simp only [← hji3, ← hji7]; first | rfl | (simp [errW_none, errW_some] <;> rfl)) | (simp [*, errW_none, errW_some] <;> rfl), Xi⟩

/-! ### impl_JoinModes: function 36 -/
def impl_JoinModes.f (a0 : Int) (a1 : Int) : Option (Int × Int) := (impl_isMode.f a0 0).bind fun t109 => (if t109 = true then ((impl_isMode.f a1 0).bind fun t110 => (if t110 = true then ((impl_joined.f a0 a1).bind fun t111 => (some (t111, 0))) else (some (0, 19)))) else (some (0, 19)))
set_option maxHeartbeats 8000000 in
set_option maxRecDepth 100000 in
theorem impl_JoinModes.calls (a0 : Int) (a1 : Int) (r1 : Int) (r2 : Int) (w : World) (h : impl_JoinModes.f a0 a1 = some (r1, r2)) :
  Calls Try.prog 36 #[.int .i64 a0, .int .i64 a1] w fun e w' => e = .returned (.tuple #[.int .i64 r1, .int .i64 r2]) ∧ Below w.heap.size w w' := by
 have HB := Aside0.mk (Below.refl w.heap.size w)
 have H : ((impl_isMode.f a0 0).bind fun t109 => (if t109 = true then ((impl_isMode.f a1 0).bind fun t110 => (if t110 = true then ((impl_joined.f a0 a1).bind fun t111 => (some (t111, 0))) else (some (0, 19)))) else (some (0, 19)))) = some (r1, r2) := h
 clear h
 obtain ⟨t109, A3, H⟩ := Xbi H
 (try dsimp only at H)
 by_cases c4 : t109 = true
 ·subst c4
  (first | rw [if_pos rfl] at H | skip)
  obtain ⟨t110, A5, H⟩ := Xbi H
  (try dsimp only at H)
  have HC6 := Aside0.mk H
  clear H
  go_enter Try.func36, Try.ntmps36
  go_upto_if 13 with (first | ((with_reducible refine gate_callee (f := 95) rfl ?_); refine Xgo 7 Try.func95 #[.int .i64 a0, .int .i64 0] ?_; (with_reducible refine (impl_isMode.calls a0 0 true _ A3.out).mono ?_); rintro e w' ⟨rfl, ⟨nd, rfl⟩⟩; refine ⟨_, rfl, ?_⟩) | (go_at_call 95; (with_reducible refine (impl_isMode.calls a1 0 t110 _ A5.out).mono ?_); rintro e w' ⟨rfl, ⟨nd, rfl⟩⟩))
  have H := HC6.out
  clear HC6
  by_cases c7 : t110 = true
  ·subst c7
   (first | rw [if_pos rfl] at H | skip)
   obtain ⟨t111, A8, H⟩ := Xbi H
   (try dsimp only at H)
   simp only [Option.some.injEq, Prod.mk.injEq] at H
   obtain ⟨rfl, rfl⟩ := H
   go_wp2_with (first | ((with_reducible refine gate_callee (f := 98) rfl ?_); refine Xgo 16 Try.func98 #[.int .i64 a0, .int .i64 a1] ?_; (with_reducible refine (impl_joined.calls a0 a1 t111 _ A8.out).mono ?_); rintro e w9 ⟨rfl, hb⟩; refine ⟨_, rfl, ?_⟩; replace HB := Aside0.mk (below_step Xi hb); clear hb))
   go_ret2
   exact ⟨Xe, Xi⟩
  ·replace c7 := Bool.eq_false_iff.mpr c7
   subst c7
   (first | rw [if_neg (show ¬ (false = true) by decide)] at H | skip)
   simp only [Option.some.injEq, Prod.mk.injEq] at H
   obtain ⟨rfl, rfl⟩ := H
   go_wp2
   go_ret2
   exact ⟨Xe, Xi⟩
 ·replace c4 := Bool.eq_false_iff.mpr c4
  subst c4
  (first | rw [if_neg (show ¬ (false = true) by decide)] at H | skip)
  simp only [Option.some.injEq, Prod.mk.injEq] at H
  obtain ⟨rfl, rfl⟩ := H
  go_enter Try.func36, Try.ntmps36
  go_wp2_with (first | ((with_reducible refine gate_callee (f := 95) rfl ?_); refine Xgo 7 Try.func95 #[.int .i64 a0, .int .i64 0] ?_; (with_reducible refine (impl_isMode.calls a0 0 false _ A3.out).mono ?_); rintro e w' ⟨rfl, ⟨nd, rfl⟩⟩; refine ⟨_, rfl, ?_⟩))
  go_ret2
  exact ⟨Xe, Xi⟩

/-! ### spec_l07Join: function 99 -/
def spec_l07Join.f : Nat → Int → Int → Option (Int)
 | 0, _, _ => none
 | k + 1, a0, a1 => if a0 > a1 then ((spec_l07Join.f k a1 a0).bind fun t112 => (some t112)) else (if a0 = 2 then (if a1 = 3 then (some 4) else (some a1)) else (some a1))
set_option maxHeartbeats 8000000 in
set_option maxRecDepth 100000 in
theorem spec_l07Join.calls (k : Nat) : ∀ (a0 : Int) (a1 : Int) (r : Int) (w : World) (h : spec_l07Join.f k a0 a1 = some r),
  Calls Try.prog 99 #[.int .i64 a0, .int .i64 a1] w fun e w' => e = .returned (.int .i64 r) ∧ Below w.heap.size w w' := by
 induction k using Nat.strongRecOn with
 | _ k ih =>
 intro a0 a1 r w h
 cases k with
 | zero => exact absurd h (by simp [spec_l07Join.f])
 | succ k =>
 simp only [spec_l07Join.f] at h
 have HB := Aside0.mk (Below.refl w.heap.size w)
 have H : (if a0 > a1 then ((spec_l07Join.f k a1 a0).bind fun t112 => (some t112)) else (if a0 = 2 then (if a1 = 3 then (some 4) else (some a1)) else (some a1))) = some r := h
 clear h
 obtain ⟨c3, H⟩ | ⟨c3, H⟩ := Xiu H
 ·have c3b0 : decide (a1 < a0) = true := decide_eq_true c3
  clear c3
  obtain ⟨t112, A4, H⟩ := Xbi H
  (try dsimp only at H)
  obtain rfl := Option.some.inj H
  go_enter Try.func99, Try.ntmps99
  go_wp2_with (first | ((with_reducible refine gate_callee (f := 99) rfl ?_); refine Xgo 10 Try.func99 #[.int .i64 a1, .int .i64 a0] ?_; (with_reducible refine (ih k (by omega) a1 a0 t112 _ A4.out).mono ?_); rintro e w5 ⟨rfl, hb⟩; refine ⟨_, rfl, ?_⟩; replace HB := Aside0.mk (below_step Xi hb); clear hb))
  go_ret
  exact ⟨Xe, Xi⟩
 ·have c3b0 : decide (a1 < a0) = false := decide_eq_false c3
  clear c3
  obtain ⟨c6, H⟩ | ⟨c6, H⟩ := Xiu H
  ·have c6b0 : (a0 == 2) = true := beq_iff_eq.mpr c6
   have c6b1 : (a0 != 2) = false := bne_eq_false_iff_eq.mpr c6
   clear c6
   obtain ⟨c7, H⟩ | ⟨c7, H⟩ := Xiu H
   ·have c7b0 : (a1 == 3) = true := beq_iff_eq.mpr c7
    have c7b1 : (a1 != 3) = false := bne_eq_false_iff_eq.mpr c7
    clear c7
    obtain rfl := Option.some.inj H
    go_enter Try.func99, Try.ntmps99
    go_wp2
    go_ret
    exact ⟨Xe, Xi⟩
   ·have c7b0 : (a1 == 3) = false := beq_eq_false_iff_ne.mpr c7
    have c7b1 : (a1 != 3) = true := bne_iff_ne.mpr c7
    obtain rfl := Option.some.inj H
    go_enter Try.func99, Try.ntmps99
    go_wp2
    go_ret
    exact ⟨Xe, Xi⟩
  ·have c6b0 : (a0 == 2) = false := beq_eq_false_iff_ne.mpr c6
   have c6b1 : (a0 != 2) = true := bne_iff_ne.mpr c6
   obtain rfl := Option.some.inj H
   go_enter Try.func99, Try.ntmps99
   go_wp2
   go_ret
   exact ⟨Xe, Xi⟩

/-! ### spec_JoinModes: function 37 -/
def spec_JoinModes.f (k : Nat) (a0 : Int) (a1 : Int) : Option (Int × Int) := (spec_l01In.f a0 0 5).bind fun t113 => (if t113 = true then ((spec_l01In.f a1 0 5).bind fun t114 => (if t114 = true then ((spec_l07Join.f k a0 a1).bind fun t115 => (some (t115, 0))) else (some (0, 19)))) else (some (0, 19)))
set_option maxHeartbeats 8000000 in
set_option maxRecDepth 100000 in
theorem spec_JoinModes.calls (k : Nat) (a0 : Int) (a1 : Int) (r1 : Int) (r2 : Int) (w : World) (h : spec_JoinModes.f k a0 a1 = some (r1, r2)) :
  Calls Try.prog 37 #[.int .i64 a0, .int .i64 a1] w fun e w' => e = .returned (.tuple #[.int .i64 r1, .int .i64 r2]) ∧ Below w.heap.size w w' := by
 have HB := Aside0.mk (Below.refl w.heap.size w)
 have H : ((spec_l01In.f a0 0 5).bind fun t113 => (if t113 = true then ((spec_l01In.f a1 0 5).bind fun t114 => (if t114 = true then ((spec_l07Join.f k a0 a1).bind fun t115 => (some (t115, 0))) else (some (0, 19)))) else (some (0, 19)))) = some (r1, r2) := h
 clear h
 obtain ⟨t113, A3, H⟩ := Xbi H
 (try dsimp only at H)
 by_cases c4 : t113 = true
 ·subst c4
  (first | rw [if_pos rfl] at H | skip)
  obtain ⟨t114, A5, H⟩ := Xbi H
  (try dsimp only at H)
  have HC6 := Aside0.mk H
  clear H
  go_enter Try.func37, Try.ntmps37
  go_upto_if 13 with (first | ((with_reducible refine gate_callee (f := 85) rfl ?_); refine Xgo 7 Try.func85 #[.int .i64 a0, .int .i64 0, .int .i64 5] ?_; (with_reducible refine (spec_l01In.calls a0 0 5 true _ A3.out).mono ?_); rintro e w' ⟨rfl, ⟨nd, rfl⟩⟩; refine ⟨_, rfl, ?_⟩) | (go_at_call 85; (with_reducible refine (spec_l01In.calls a1 0 5 t114 _ A5.out).mono ?_); rintro e w' ⟨rfl, ⟨nd, rfl⟩⟩))
  have H := HC6.out
  clear HC6
  by_cases c7 : t114 = true
  ·subst c7
   (first | rw [if_pos rfl] at H | skip)
   obtain ⟨t115, A8, H⟩ := Xbi H
   (try dsimp only at H)
   simp only [Option.some.injEq, Prod.mk.injEq] at H
   obtain ⟨rfl, rfl⟩ := H
   go_wp2_with (first | ((with_reducible refine gate_callee (f := 99) rfl ?_); refine Xgo 16 Try.func99 #[.int .i64 a0, .int .i64 a1] ?_; (with_reducible refine (spec_l07Join.calls k a0 a1 t115 _ A8.out).mono ?_); rintro e w9 ⟨rfl, hb⟩; refine ⟨_, rfl, ?_⟩; replace HB := Aside0.mk (below_step Xi hb); clear hb))
   go_ret2
   exact ⟨Xe, Xi⟩
  ·replace c7 := Bool.eq_false_iff.mpr c7
   subst c7
   (first | rw [if_neg (show ¬ (false = true) by decide)] at H | skip)
   simp only [Option.some.injEq, Prod.mk.injEq] at H
   obtain ⟨rfl, rfl⟩ := H
   go_wp2
   go_ret2
   exact ⟨Xe, Xi⟩
 ·replace c4 := Bool.eq_false_iff.mpr c4
  subst c4
  (first | rw [if_neg (show ¬ (false = true) by decide)] at H | skip)
  simp only [Option.some.injEq, Prod.mk.injEq] at H
  obtain ⟨rfl, rfl⟩ := H
  go_enter Try.func37, Try.ntmps37
  go_wp2_with (first | ((with_reducible refine gate_callee (f := 85) rfl ?_); refine Xgo 7 Try.func85 #[.int .i64 a0, .int .i64 0, .int .i64 5] ?_; (with_reducible refine (spec_l01In.calls a0 0 5 false _ A3.out).mono ?_); rintro e w' ⟨rfl, ⟨nd, rfl⟩⟩; refine ⟨_, rfl, ?_⟩))
  go_ret2
  exact ⟨Xe, Xi⟩

/-! ### impl_intent: function 100 -/
def impl_intent.f (a0 : Int) : Option (Int) := if a0 = 0 then (some 0) else (if a0 = 1 then (some 1) else (if a0 = 3 then (some 1) else (some 2)))
set_option maxHeartbeats 8000000 in
set_option maxRecDepth 100000 in
theorem impl_intent.calls (a0 : Int) (r : Int) (w : World) (h : impl_intent.f a0 = some r) :
  Calls Try.prog 100 #[.int .i64 a0] w fun e w' => e = .returned (.int .i64 r) ∧ Drawn0 w w' := by
 have H : (if a0 = 0 then (some 0) else (if a0 = 1 then (some 1) else (if a0 = 3 then (some 1) else (some 2)))) = some r := h
 clear h
 obtain ⟨c2, H⟩ | ⟨c2, H⟩ := Xiu H
 ·have c2b0 : (a0 == 0) = true := beq_iff_eq.mpr c2
  have c2b1 : (a0 != 0) = false := bne_eq_false_iff_eq.mpr c2
  clear c2
  obtain rfl := Option.some.inj H
  go_enter Try.func100, Try.ntmps100
  go_wp2
  go_ret
  exact ⟨Xr, Xdr⟩
 ·have c2b0 : (a0 == 0) = false := beq_eq_false_iff_ne.mpr c2
  have c2b1 : (a0 != 0) = true := bne_iff_ne.mpr c2
  obtain ⟨c3, H⟩ | ⟨c3, H⟩ := Xiu H
  ·have c3b0 : (a0 == 1) = true := beq_iff_eq.mpr c3
   have c3b1 : (a0 != 1) = false := bne_eq_false_iff_eq.mpr c3
   clear c3
   obtain rfl := Option.some.inj H
   go_enter Try.func100, Try.ntmps100
   go_wp2
   go_ret
   exact ⟨Xr, Xdr⟩
  ·have c3b0 : (a0 == 1) = false := beq_eq_false_iff_ne.mpr c3
   have c3b1 : (a0 != 1) = true := bne_iff_ne.mpr c3
   obtain ⟨c4, H⟩ | ⟨c4, H⟩ := Xiu H
   ·have c4b0 : (a0 == 3) = true := beq_iff_eq.mpr c4
    have c4b1 : (a0 != 3) = false := bne_eq_false_iff_eq.mpr c4
    clear c4
    obtain rfl := Option.some.inj H
    go_enter Try.func100, Try.ntmps100
    go_wp2
    go_ret
    exact ⟨Xr, Xdr⟩
   ·have c4b0 : (a0 == 3) = false := beq_eq_false_iff_ne.mpr c4
    have c4b1 : (a0 != 3) = true := bne_iff_ne.mpr c4
    obtain rfl := Option.some.inj H
    go_enter Try.func100, Try.ntmps100
    go_wp2
    go_ret
    exact ⟨Xr, Xdr⟩

end Go.Proofs.Ytahhgjkgfbppeaa.XA
