/- Contracts of the program's functions: each Go function that is named below comes to what its Lean function says. Written by xprint.py (a program of this session's, over the kit's print). Conditions: each contract's own premises. -/
import Derived.Test.YtahhgjkgfbppeaaYDropHold0
namespace Go.Proofs.Ytahhgjkgfbppeaa.XA
open Go.RowKit Go.Proofs.YtahhgjkgfbppeaaW.PrintWords Go.Proofs.YtahhgjkgfbppeaaW.PrintLast Go.Proofs.YtahhgjkgfbppeaaW.PrintMore XW
attribute [local go_sem] max2_int min2_int max_two min_two max_three min_three max_four min_four   -- for this text's walks alone
set_option linter.unusedVariables false
set_option linter.unusedSimpArgs false

/-! ### laws_heldHoldS: function 21 -/
def laws_heldHoldS.l0 : Nat → List (S44) → Int → Int → Option (Int)
 | 0, _, _, _ => none
 | k + 1, x0, x1, x5 => if x5 < (x0.length : Int) then (if 0 ≤ x5 then (if ((rd_T44 x0 x5).f0) = x1 then (if ((rd_T44 x0 x5).f1) = (wrap64 (x1 + 1)) then (if ((rd_T44 x0 x5).f2) = (wrap64 ((wrap64 (x1 + 1)) + 1)) then (laws_heldHoldS.l0 k x0 (wrap64 ((wrap64 ((wrap64 (x1 + 1)) + 1)) + 1)) (wrap64 (x5 + 1))) else (some (-1))) else (some (-1))) else (some (-1))) else (none)) else (some x1)
def laws_heldHoldS.f (k : Nat) (l0 : List (S44)) (a1 : Int) : Option (Int) := laws_heldHoldS.l0 k l0 a1 0
set_option maxHeartbeats 8000000 in
set_option maxRecDepth 100000 in
theorem laws_heldHoldS.calls (k : Nat) (A0 : Option Addr) (c0 : Nat) (l0 : List (S44)) (a1 : Int) (r : Int) (w : World) (hr0 : Kd.C k44 w A0 l0.length l0) (hc0 : l0.length ≤ c0) (h : laws_heldHoldS.f k l0 a1 = some r) :
  Calls Try.prog 21 #[.slice A0 l0.length c0, .int .i64 a1] w fun e w' => e = .returned (.int .i64 r) ∧ Drawn0 w w' := by
 have HR0 := Aside0.mk hr0
 have HC0 := Aside0.mk hc0
 clear hr0 hc0
 have H : (laws_heldHoldS.l0 k l0 a1 0) = some r := h
 clear h
 have H' := Aside0.mk H
 clear H
 go_enter Try.func21, Try.ntmps21
 go_wp2
 go_loopg [1, 5] k (fun kq v1 v5 w' => ∃ (x1_1 : Int) (x5_1 : Int), v1 = .int .i64 x1_1 ∧ v5 = .int .i64 x5_1 ∧ Aside0 (laws_heldHoldS.l0 kq l0 x1_1 x5_1 = some r) ∧ Aside0 (kq ≤ k) ∧ Drawn0 w w')
 case atStart => exact ⟨(a1), (0), Xr, Xr, H', Xkr, by repeat (first | exact Drawn0.refl _ | apply Drawn0.step)⟩
 case round =>
  clear H'
  obtain ⟨x1_1, x5_1, rfl, rfl, HA, HK1, ⟨m1, rfl⟩⟩ := hrel
  cases gk with
  | zero => cases HA.out
  | succ k1 =>
   have H := HA.out
   clear HA
   simp only [laws_heldHoldS.l0] at H
   obtain ⟨c3b0, H⟩ | ⟨c3b0, H⟩ := Xit H
   ·obtain ⟨c4b0, H⟩ := Xid H
    obtain ⟨c5, H⟩ | ⟨c5, H⟩ := Xiu H
    ·have c5b0 : (((rd_T44 l0 x5_1).f0) == x1_1) = true := beq_iff_eq.mpr c5
     have c5b1 : (((rd_T44 l0 x5_1).f0) != x1_1) = false := bne_eq_false_iff_eq.mpr c5
     clear c5
     obtain ⟨c6, H⟩ | ⟨c6, H⟩ := Xiu H
     ·have c6b0 : (((rd_T44 l0 x5_1).f1) == (wrap64 (x1_1 + 1))) = true := beq_iff_eq.mpr c6
      have c6b1 : (((rd_T44 l0 x5_1).f1) != (wrap64 (x1_1 + 1))) = false := bne_eq_false_iff_eq.mpr c6
      clear c6
      obtain ⟨c7, H⟩ | ⟨c7, H⟩ := Xiu H
      ·have c7b0 : (((rd_T44 l0 x5_1).f2) == (wrap64 ((wrap64 (x1_1 + 1)) + 1))) = true := beq_iff_eq.mpr c7
       have c7b1 : (((rd_T44 l0 x5_1).f2) != (wrap64 ((wrap64 (x1_1 + 1)) + 1))) = false := bne_eq_false_iff_eq.mpr c7
       clear c7
       have H' := Aside0.mk H
       clear H
       have p378 : 0 ≤ (x5_1 : Int) := of_decide_eq_true Xa
       have q378 : x5_1 < (l0.length : Int) := of_decide_eq_true Xa
       obtain ⟨ad378, e378, hx378_0, hx378_1, hx378_2⟩ := at_T44 HR0.out x5_1 p378 q378
       cases e378
       replace p378 := eq_true p378
       replace q378 := eq_true q378
       have p379 : 0 ≤ (x5_1 : Int) := of_decide_eq_true Xa
       have q379 : x5_1 < (l0.length : Int) := of_decide_eq_true Xa
       obtain ⟨ad379, e379, hx379_0, hx379_1, hx379_2⟩ := at_T44 HR0.out x5_1 p379 q379
       obtain rfl : ad378 = ad379 := (by injection e379)
       replace p379 := eq_true p379
       replace q379 := eq_true q379
       have p380 : 0 ≤ (x5_1 : Int) := of_decide_eq_true Xa
       have q380 : x5_1 < (l0.length : Int) := of_decide_eq_true Xa
       obtain ⟨ad380, e380, hx380_0, hx380_1, hx380_2⟩ := at_T44 HR0.out x5_1 p380 q380
       obtain rfl : ad378 = ad380 := (by injection e380)
       replace p380 := eq_true p380
       replace q380 := eq_true q380
       go_wp2
       go_roundg k1
       case measure => have := HK1.out; omega
       case rel => exact ⟨(wrap64 ((wrap64 ((wrap64 (x1_1 + 1)) + 1)) + 1)), (wrap64 (x5_1 + 1)), Xr, Xr, H', Xk1, by repeat (first | exact Drawn0.refl _ | apply Drawn0.step)⟩
      ·have c7b0 : (((rd_T44 l0 x5_1).f2) == (wrap64 ((wrap64 (x1_1 + 1)) + 1))) = false := beq_eq_false_iff_ne.mpr c7
       have c7b1 : (((rd_T44 l0 x5_1).f2) != (wrap64 ((wrap64 (x1_1 + 1)) + 1))) = true := bne_iff_ne.mpr c7
       obtain rfl := Option.some.inj H
       have p378 : 0 ≤ (x5_1 : Int) := of_decide_eq_true Xa
       have q378 : x5_1 < (l0.length : Int) := of_decide_eq_true Xa
       obtain ⟨ad378, e378, hx378_0, hx378_1, hx378_2⟩ := at_T44 HR0.out x5_1 p378 q378
       cases e378
       replace p378 := eq_true p378
       replace q378 := eq_true q378
       have p379 : 0 ≤ (x5_1 : Int) := of_decide_eq_true Xa
       have q379 : x5_1 < (l0.length : Int) := of_decide_eq_true Xa
       obtain ⟨ad379, e379, hx379_0, hx379_1, hx379_2⟩ := at_T44 HR0.out x5_1 p379 q379
       obtain rfl : ad378 = ad379 := (by injection e379)
       replace p379 := eq_true p379
       replace q379 := eq_true q379
       have p380 : 0 ≤ (x5_1 : Int) := of_decide_eq_true Xa
       have q380 : x5_1 < (l0.length : Int) := of_decide_eq_true Xa
       obtain ⟨ad380, e380, hx380_0, hx380_1, hx380_2⟩ := at_T44 HR0.out x5_1 p380 q380
       obtain rfl : ad378 = ad380 := (by injection e380)
       replace p380 := eq_true p380
       replace q380 := eq_true q380
       go_wp2
       go_ret
       exact ⟨Xr, Xdr⟩
     ·have c6b0 : (((rd_T44 l0 x5_1).f1) == (wrap64 (x1_1 + 1))) = false := beq_eq_false_iff_ne.mpr c6
      have c6b1 : (((rd_T44 l0 x5_1).f1) != (wrap64 (x1_1 + 1))) = true := bne_iff_ne.mpr c6
      obtain rfl := Option.some.inj H
      have p378 : 0 ≤ (x5_1 : Int) := of_decide_eq_true Xa
      have q378 : x5_1 < (l0.length : Int) := of_decide_eq_true Xa
      obtain ⟨ad378, e378, hx378_0, hx378_1, hx378_2⟩ := at_T44 HR0.out x5_1 p378 q378
      cases e378
      replace p378 := eq_true p378
      replace q378 := eq_true q378
      have p379 : 0 ≤ (x5_1 : Int) := of_decide_eq_true Xa
      have q379 : x5_1 < (l0.length : Int) := of_decide_eq_true Xa
      obtain ⟨ad379, e379, hx379_0, hx379_1, hx379_2⟩ := at_T44 HR0.out x5_1 p379 q379
      obtain rfl : ad378 = ad379 := (by injection e379)
      replace p379 := eq_true p379
      replace q379 := eq_true q379
      go_wp2
      go_ret
      exact ⟨Xr, Xdr⟩
    ·have c5b0 : (((rd_T44 l0 x5_1).f0) == x1_1) = false := beq_eq_false_iff_ne.mpr c5
     have c5b1 : (((rd_T44 l0 x5_1).f0) != x1_1) = true := bne_iff_ne.mpr c5
     obtain rfl := Option.some.inj H
     have p378 : 0 ≤ (x5_1 : Int) := of_decide_eq_true Xa
     have q378 : x5_1 < (l0.length : Int) := of_decide_eq_true Xa
     obtain ⟨ad378, e378, hx378_0, hx378_1, hx378_2⟩ := at_T44 HR0.out x5_1 p378 q378
     cases e378
     replace p378 := eq_true p378
     replace q378 := eq_true q378
     go_wp2
     go_ret
     exact ⟨Xr, Xdr⟩
   ·obtain rfl := Option.some.inj H
    go_wp2
    go_ret
    exact ⟨Xr, Xdr⟩

end Go.Proofs.Ytahhgjkgfbppeaa.XA
