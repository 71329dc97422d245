/- Contracts of the program's functions: each Go function that is named below comes to what its Lean function says. Written by xprint.py (a program of this session's, over the kit's print). Conditions: each contract's own premises. -/
import Derived.Test.YthkbgbkglgmpoaaYCompileTerms0
namespace Go.Proofs.Ythkbgbkglgmpoaa.XA
open Go.RowKit Go.Proofs.YthkbgbkglgmpoaaW.PrintWords Go.Proofs.YthkbgbkglgmpoaaW.PrintLast Go.Proofs.YthkbgbkglgmpoaaW.PrintMore XW
attribute [local go_sem] max2_int min2_int max_two min_two max_three min_three max_four min_four   -- for this text's walks alone
set_option linter.unusedVariables false
set_option linter.unusedSimpArgs false

/-! ### impl_has: function 104 -/
def impl_has.f (a0 : Int) (a1 : Int) : Option (Bool) := if 0 ≤ a1 then (some ((Go.bits .and .i64 (shr .i64 a0 a1) 1) == 1)) else (none)
set_option maxHeartbeats 8000000 in
set_option maxRecDepth 100000 in
theorem impl_has.calls (a0 : Int) (a1 : Int) (r : Bool) (w : World) (h : impl_has.f a0 a1 = some r) :
  Calls Try.prog 104 #[.int .i64 a0, .int .i64 a1] w fun e w' => e = .returned (.bool r) ∧ Drawn0 w w' := by
 have H : (if 0 ≤ a1 then (some ((Go.bits .and .i64 (shr .i64 a0 a1) 1) == 1)) else (none)) = some r := h
 clear h
 obtain ⟨c3, H⟩ | ⟨c3, H⟩ := Xiu H
 ·have c3b0 := eq_true c3
  have c3b1 : decide (0 ≤ a1) = true := decide_eq_true c3
  clear c3
  obtain ⟨ji4, hji4⟩ : ∃ j_ : Int, (shr .i64 a0 a1) = j_ := ⟨_, rfl⟩
  replace H : (some ((Go.bits .and .i64 (ji4) 1) == 1)) = some r := by first | (rw [hji4] at H; exact H) | (simp only [hji4] at H ⊢; exact H)
  have hji4_ : (a0 / 2 ^ min a1.toNat 64) = ji4 := hji4
  have hji4z : a1 ≤ 64 → (a0 / 2 ^ a1.toNat) = ji4 := shr_small hji4
  obtain rfl := Option.some.inj H
  go_enter Try.func104, Try.ntmps104
  go_wp2
  go_ret
  exact ⟨by first | rfl | (simp; done) | (simp only [← hji4] <;> (first | rfl | simp)) | (simp [*]; done), by repeat (first | exact Drawn0.refl _ | apply Drawn0.step)⟩
 ·exact absurd H (by simp)

/-! ### impl_closed: function 101 -/
def impl_closed.l0 : Nat → Int → List (S78) → Int → Int → Option (Int)
 | 0, _, _, _, _ => none
 | k + 1, x1, x7, x8, x9 => if x9 < x8 then (if 0 ≤ x9 then (if x9 < (x7.length : Int) then ((impl_has.f x1 (wrap64 ((wrap64 (2 * x9)) + 1))).bind fun t241 => (if t241 = true then (if 0 ≤ (wrap64 ((wrap64 (2 * x9)) + 2)) then (impl_closed.l0 k (Go.bits .or .i64 x1 (shl .i64 1 (wrap64 ((wrap64 (2 * x9)) + 2)))) x7 x8 (wrap64 (x9 + 1))) else (none)) else ((impl_has.f x1 (wrap64 (2 * x9))).bind fun t242 => (if t242 = true then (if ((rd_T78 x7 x9).f1) = 1 then (if 0 ≤ (wrap64 ((wrap64 (2 * x9)) + 2)) then (impl_closed.l0 k (Go.bits .or .i64 x1 (shl .i64 1 (wrap64 ((wrap64 (2 * x9)) + 2)))) x7 x8 (wrap64 (x9 + 1))) else (none)) else (if ((rd_T78 x7 x9).f1) = 2 then (if 0 ≤ (wrap64 ((wrap64 (2 * x9)) + 2)) then (impl_closed.l0 k (Go.bits .or .i64 x1 (shl .i64 1 (wrap64 ((wrap64 (2 * x9)) + 2)))) x7 x8 (wrap64 (x9 + 1))) else (none)) else (impl_closed.l0 k x1 x7 x8 (wrap64 (x9 + 1))))) else (impl_closed.l0 k x1 x7 x8 (wrap64 (x9 + 1))))))) else (none)) else (none)) else (some x1)
def impl_closed.f (k : Nat) (l0 : List (S78)) (a1 : Int) : Option (Int) := impl_closed.l0 k a1 l0 (l0.length : Int) 0
set_option maxHeartbeats 8000000 in
set_option maxRecDepth 100000 in
theorem impl_closed.calls (k : Nat) (A0 : Option Addr) (c0 : Nat) (l0 : List (S78)) (a1 : Int) (r : Int) (w : World) (hr0 : Kd.C k78 w A0 l0.length l0) (hc0 : l0.length ≤ c0) (h : impl_closed.f k l0 a1 = some r) :
  Calls Try.prog 101 #[.slice A0 l0.length c0, .int .i64 a1] w fun e w' => e = .returned (.int .i64 r) ∧ Below w.heap.size w w' := by
 have hu78 := Try.underlying78
 have HR0 := Aside0.mk hr0
 have HC0 := Aside0.mk hc0
 clear hr0 hc0
 have HB := Aside0.mk (Below.refl w.heap.size w)
 have H : (impl_closed.l0 k a1 l0 (l0.length : Int) 0) = some r := h
 clear h
 have H' := Aside0.mk H
 clear H
 go_enter Try.func101, Try.ntmps101
 go_wp2
 go_loopg [1, 9] k (fun kq v1 v9 w' => ∃ (x1_1 : Int) (x9_1 : Int), v1 = .int .i64 x1_1 ∧ v9 = .int .i64 x9_1 ∧ Aside0 (impl_closed.l0 kq x1_1 l0 (l0.length : Int) x9_1 = some r) ∧ Aside0 (kq ≤ k) ∧ Aside0 (Below w.heap.size w w'))
 case atStart => exact ⟨(a1), (0), Xr, Xr, H', Xkr, ⟨Xi⟩⟩
 case round =>
  clear H'
  obtain ⟨x1_1, x9_1, rfl, rfl, HA, HK1, HB⟩ := hrel
  cases gk with
  | zero => cases HA.out
  | succ k1 =>
   have H := HA.out
   clear HA
   simp only [impl_closed.l0] at H
   obtain ⟨c3b0, H⟩ | ⟨c3b0, H⟩ := Xit H
   ·obtain ⟨c4b0, H⟩ := Xid H
    obtain ⟨c5b0, H⟩ := Xid H
    have HC6 := Aside0.mk H
    clear H
    obtain ⟨ad239, A239_0, c239_0, e239, p239, q239, hx239_0, hx239_1, HC239_0, HR239_0⟩ := at_B78 HR0 x9_1 Xa Xa HB
    cases e239
    go_upto_region 4 with (first | ((with_reducible refine gate_dst (N := 6) rfl ?_); refine Xbox 6 #[.slice none 0 0, .int .i64 0] 78 ?_; intro gb240 hg w7 hbox hb; have BK240 := Aside0.mk (hbox); have GE240 := Xge hg Xi; replace HB := Aside0.mk (below_step Xi hb); clear hb hbox hg; obtain ⟨hcz8_0, hcz8_1⟩ := Xc2 BK240; obtain ⟨hfz8_0, hfz8_1⟩ := Xf2 BK240))
    have H := HC6.out
    clear HC6
    obtain ⟨t241, A9, H⟩ := Xbi H
    (try dsimp only at H)
    by_cases c10 : t241 = true
    ·subst c10
     (first | rw [if_pos rfl] at H | skip)
     obtain ⟨ji11, hji11⟩ : ∃ j_ : Int, (wrap64 ((wrap64 (2 * x9_1)) + 2)) = j_ := ⟨_, rfl⟩
     replace H : (if 0 ≤ (ji11) then (impl_closed.l0 k1 (Go.bits .or .i64 x1_1 (shl .i64 1 (ji11))) l0 (l0.length : Int) (wrap64 (x9_1 + 1))) else (none)) = some r := by first | (rw [hji11] at H; exact H) | (simp only [hji11] at H ⊢; exact H)
     (try rw [hji11] at A9)
     have hji11w : (IntKind.i64.wrap ((wrap64 (2 * x9_1)) + 2)) = ji11 := (i64_w _).trans hji11
     obtain ⟨c12, H⟩ := Xif H
     have c12b0 := eq_true c12
     have c12b1 : decide (0 ≤ (ji11)) = true := decide_eq_true c12
     clear c12
     obtain ⟨ji13, hji13⟩ : ∃ j_ : Int, (shl .i64 1 (ji11)) = j_ := ⟨_, rfl⟩
     replace H : (impl_closed.l0 k1 (Go.bits .or .i64 x1_1 (ji13)) l0 (l0.length : Int) (wrap64 (x9_1 + 1))) = some r := by first | (rw [hji13] at H; exact H) | (simp only [hji13] at H ⊢; exact H)
     (try rw [hji13] at A9)
     have hji13_ : (IntKind.i64.wrap (1 * 2 ^ min (ji11).toNat 64)) = ji13 := hji13
     have hji13z : (ji11) ≤ 64 → (IntKind.i64.wrap (1 * 2 ^ (ji11).toNat)) = ji13 := shl_small hji13
     have hji13u : (IntKind.i64.wrap (2 ^ min (ji11).toNat 64)) = ji13 := by have h_ := hji13_; rw [Int.one_mul] at h_; exact h_
     have hji13v : (ji11) ≤ 64 → (IntKind.i64.wrap (2 ^ (ji11).toNat)) = ji13 := fun hle_ => by have h_ := hji13z hle_; rw [Int.one_mul] at h_; exact h_
     have hji13y : (wrap64 (1 * 2 ^ min (ji11).toNat 64)) = ji13 := (i64_w _).symm.trans hji13_
     have hji13x : (ji11) ≤ 64 → (wrap64 (1 * 2 ^ (ji11).toNat)) = ji13 := fun h_ => (i64_w _).symm.trans (hji13z h_)
     have H' := Aside0.mk H
     clear H
     go_wp2_with (first | ((with_reducible refine gate_callee (f := 104) rfl ?_); refine Xgo 18 Try.func104 #[.int .i64 x1_1, .int .i64 (wrap64 ((wrap64 (2 * x9_1)) + 1))] ?_; (with_reducible refine (impl_has.calls x1_1 (wrap64 ((wrap64 (2 * x9_1)) + 1)) true _ A9.out).mono ?_); rintro e w' ⟨rfl, ⟨nd, rfl⟩⟩; refine ⟨_, rfl, ?_⟩))
     go_roundg k1
     case measure => have := HK1.out; omega
     case rel => exact ⟨(Go.bits .or .i64 x1_1 (ji13)), (wrap64 (x9_1 + 1)), (by first | rfl | (simp; done) | (simp only [← hji13] <;> (first | rfl | simp)) | (simp [*]; done)), Xr, H', Xk1, ⟨Xi⟩⟩
    ·replace c10 := Bool.eq_false_iff.mpr c10
     subst c10
     (first | rw [if_neg (show ¬ (false = true) by decide)] at H | skip)
     obtain ⟨t242, A14, H⟩ := Xbi H
     (try dsimp only at H)
     by_cases c15 : t242 = true
     ·subst c15
      (first | rw [if_pos rfl] at H | skip)
      obtain ⟨c16, H⟩ | ⟨c16, H⟩ := Xiu H
      ·have c16b0 : (((rd_T78 l0 x9_1).f1) == 1) = true := beq_iff_eq.mpr c16
       have c16b1 : (((rd_T78 l0 x9_1).f1) != 1) = false := bne_eq_false_iff_eq.mpr c16
       clear c16
       obtain ⟨ji17, hji17⟩ : ∃ j_ : Int, (wrap64 ((wrap64 (2 * x9_1)) + 2)) = j_ := ⟨_, rfl⟩
       replace H : (if 0 ≤ (ji17) then (impl_closed.l0 k1 (Go.bits .or .i64 x1_1 (shl .i64 1 (ji17))) l0 (l0.length : Int) (wrap64 (x9_1 + 1))) else (none)) = some r := by first | (rw [hji17] at H; exact H) | (simp only [hji17] at H ⊢; exact H)
       (try rw [hji17] at A9)
       (try rw [hji17] at A14)
       have hji17w : (IntKind.i64.wrap ((wrap64 (2 * x9_1)) + 2)) = ji17 := (i64_w _).trans hji17
       obtain ⟨c18, H⟩ := Xif H
       have c18b0 := eq_true c18
       have c18b1 : decide (0 ≤ (ji17)) = true := decide_eq_true c18
       clear c18
       obtain ⟨ji19, hji19⟩ : ∃ j_ : Int, (shl .i64 1 (ji17)) = j_ := ⟨_, rfl⟩
       replace H : (impl_closed.l0 k1 (Go.bits .or .i64 x1_1 (ji19)) l0 (l0.length : Int) (wrap64 (x9_1 + 1))) = some r := by first | (rw [hji19] at H; exact H) | (simp only [hji19] at H ⊢; exact H)
       (try rw [hji19] at A9)
       (try rw [hji19] at A14)
       have hji19_ : (IntKind.i64.wrap (1 * 2 ^ min (ji17).toNat 64)) = ji19 := hji19
       have hji19z : (ji17) ≤ 64 → (IntKind.i64.wrap (1 * 2 ^ (ji17).toNat)) = ji19 := shl_small hji19
       have hji19u : (IntKind.i64.wrap (2 ^ min (ji17).toNat 64)) = ji19 := by have h_ := hji19_; rw [Int.one_mul] at h_; exact h_
       have hji19v : (ji17) ≤ 64 → (IntKind.i64.wrap (2 ^ (ji17).toNat)) = ji19 := fun hle_ => by have h_ := hji19z hle_; rw [Int.one_mul] at h_; exact h_
       have hji19y : (wrap64 (1 * 2 ^ min (ji17).toNat 64)) = ji19 := (i64_w _).symm.trans hji19_
       have hji19x : (ji17) ≤ 64 → (wrap64 (1 * 2 ^ (ji17).toNat)) = ji19 := fun h_ => (i64_w _).symm.trans (hji19z h_)
       have H' := Aside0.mk H
       clear H
       go_wp2_with (first | ((with_reducible refine gate_callee (f := 104) rfl ?_); refine Xgo 18 Try.func104 #[.int .i64 x1_1, .int .i64 (wrap64 ((wrap64 (2 * x9_1)) + 1))] ?_; (with_reducible refine (impl_has.calls x1_1 (wrap64 ((wrap64 (2 * x9_1)) + 1)) false _ A9.out).mono ?_); rintro e w' ⟨rfl, ⟨nd, rfl⟩⟩; refine ⟨_, rfl, ?_⟩) | (go_at_call 104; (with_reducible refine (impl_has.calls x1_1 (wrap64 (2 * x9_1)) true _ A14.out).mono ?_); rintro e w' ⟨rfl, ⟨nd, rfl⟩⟩; obtain ⟨hcz20_0, hcz20_1⟩ := Xc2 BK240; obtain ⟨hfz20_0, hfz20_1⟩ := Xf2 BK240))
       go_roundg k1
       case measure => have := HK1.out; omega
       case rel => exact ⟨(Go.bits .or .i64 x1_1 (ji19)), (wrap64 (x9_1 + 1)), (by first | rfl | (simp; done) | (simp only [← hji19] <;> (first | rfl | simp)) | (simp [*]; done)), Xr, H', Xk1, ⟨Xi⟩⟩
      ·have c16b0 : (((rd_T78 l0 x9_1).f1) == 1) = false := beq_eq_false_iff_ne.mpr c16
       have c16b1 : (((rd_T78 l0 x9_1).f1) != 1) = true := bne_iff_ne.mpr c16
       have HC21 := Aside0.mk H
       clear H
       go_upto_if 34 with (first | ((with_reducible refine gate_callee (f := 104) rfl ?_); refine Xgo 18 Try.func104 #[.int .i64 x1_1, .int .i64 (wrap64 ((wrap64 (2 * x9_1)) + 1))] ?_; (with_reducible refine (impl_has.calls x1_1 (wrap64 ((wrap64 (2 * x9_1)) + 1)) false _ A9.out).mono ?_); rintro e w' ⟨rfl, ⟨nd, rfl⟩⟩; refine ⟨_, rfl, ?_⟩) | (go_at_call 104; (with_reducible refine (impl_has.calls x1_1 (wrap64 (2 * x9_1)) true _ A14.out).mono ?_); rintro e w' ⟨rfl, ⟨nd, rfl⟩⟩; obtain ⟨hcz22_0, hcz22_1⟩ := Xc2 BK240; obtain ⟨hfz22_0, hfz22_1⟩ := Xf2 BK240))
       have H := HC21.out
       clear HC21
       obtain ⟨c23, H⟩ | ⟨c23, H⟩ := Xiu H
       ·have c23b0 : (((rd_T78 l0 x9_1).f1) == 2) = true := beq_iff_eq.mpr c23
        have c23b1 : (((rd_T78 l0 x9_1).f1) != 2) = false := bne_eq_false_iff_eq.mpr c23
        clear c23
        (first | rw [c23b0] | (simp only [i64_w, i32_w]; rw [c23b0]) | skip)
        obtain ⟨ji24, hji24⟩ : ∃ j_ : Int, (wrap64 ((wrap64 (2 * x9_1)) + 2)) = j_ := ⟨_, rfl⟩
        replace H : (if 0 ≤ (ji24) then (impl_closed.l0 k1 (Go.bits .or .i64 x1_1 (shl .i64 1 (ji24))) l0 (l0.length : Int) (wrap64 (x9_1 + 1))) else (none)) = some r := by first | (rw [hji24] at H; exact H) | (simp only [hji24] at H ⊢; exact H)
        have hji24w : (IntKind.i64.wrap ((wrap64 (2 * x9_1)) + 2)) = ji24 := (i64_w _).trans hji24
        obtain ⟨c25, H⟩ := Xif H
        have c25b0 := eq_true c25
        have c25b1 : decide (0 ≤ (ji24)) = true := decide_eq_true c25
        clear c25
        obtain ⟨ji26, hji26⟩ : ∃ j_ : Int, (shl .i64 1 (ji24)) = j_ := ⟨_, rfl⟩
        replace H : (impl_closed.l0 k1 (Go.bits .or .i64 x1_1 (ji26)) l0 (l0.length : Int) (wrap64 (x9_1 + 1))) = some r := by first | (rw [hji26] at H; exact H) | (simp only [hji26] at H ⊢; exact H)
        have hji26_ : (IntKind.i64.wrap (1 * 2 ^ min (ji24).toNat 64)) = ji26 := hji26
        have hji26z : (ji24) ≤ 64 → (IntKind.i64.wrap (1 * 2 ^ (ji24).toNat)) = ji26 := shl_small hji26
        have hji26u : (IntKind.i64.wrap (2 ^ min (ji24).toNat 64)) = ji26 := by have h_ := hji26_; rw [Int.one_mul] at h_; exact h_
        have hji26v : (ji24) ≤ 64 → (IntKind.i64.wrap (2 ^ (ji24).toNat)) = ji26 := fun hle_ => by have h_ := hji26z hle_; rw [Int.one_mul] at h_; exact h_
        have hji26y : (wrap64 (1 * 2 ^ min (ji24).toNat 64)) = ji26 := (i64_w _).symm.trans hji26_
        have hji26x : (ji24) ≤ 64 → (wrap64 (1 * 2 ^ (ji24).toNat)) = ji26 := fun h_ => (i64_w _).symm.trans (hji26z h_)
        have H' := Aside0.mk H
        clear H
        go_wp2
        go_roundg k1
        case measure => have := HK1.out; omega
        case rel => exact ⟨(Go.bits .or .i64 x1_1 (ji26)), (wrap64 (x9_1 + 1)), (by first | rfl | (simp; done) | (simp only [← hji26] <;> (first | rfl | simp)) | (simp [*]; done)), Xr, H', Xk1, ⟨Xi⟩⟩
       ·have c23b0 : (((rd_T78 l0 x9_1).f1) == 2) = false := beq_eq_false_iff_ne.mpr c23
        have c23b1 : (((rd_T78 l0 x9_1).f1) != 2) = true := bne_iff_ne.mpr c23
        (first | rw [c23b0] | (simp only [i64_w, i32_w]; rw [c23b0]) | skip)
        have H' := Aside0.mk H
        clear H
        go_wp2
        go_roundg k1
        case measure => have := HK1.out; omega
        case rel => exact ⟨(x1_1), (wrap64 (x9_1 + 1)), Xr, Xr, H', Xk1, ⟨Xi⟩⟩
     ·replace c15 := Bool.eq_false_iff.mpr c15
      subst c15
      (first | rw [if_neg (show ¬ (false = true) by decide)] at H | skip)
      have H' := Aside0.mk H
      clear H
      go_wp2_with (first | ((with_reducible refine gate_callee (f := 104) rfl ?_); refine Xgo 18 Try.func104 #[.int .i64 x1_1, .int .i64 (wrap64 ((wrap64 (2 * x9_1)) + 1))] ?_; (with_reducible refine (impl_has.calls x1_1 (wrap64 ((wrap64 (2 * x9_1)) + 1)) false _ A9.out).mono ?_); rintro e w' ⟨rfl, ⟨nd, rfl⟩⟩; refine ⟨_, rfl, ?_⟩) | (go_at_call 104; (with_reducible refine (impl_has.calls x1_1 (wrap64 (2 * x9_1)) false _ A14.out).mono ?_); rintro e w' ⟨rfl, ⟨nd, rfl⟩⟩))
      go_roundg k1
      case measure => have := HK1.out; omega
      case rel => exact ⟨(x1_1), (wrap64 (x9_1 + 1)), Xr, Xr, H', Xk1, ⟨Xi⟩⟩
   ·obtain rfl := Option.some.inj H
    go_wp2
    go_ret
    exact ⟨Xe, Xi⟩

/-! ### slices_Index_int_int: function 103 -/
def slices_Index_int_int.l0 : Nat → List Int → Int → Int → Int → Option (Int)
 | 0, _, _, _, _ => none
 | k + 1, x0, x1, x7, x8 => if x8 < x7 then (if 0 ≤ x8 then (if x8 < (x0.length : Int) then (if x1 = (rd x0 x8) then (some x8) else (slices_Index_int_int.l0 k x0 x1 x7 (wrap64 (x8 + 1)))) else (none)) else (none)) else (some (-1))
def slices_Index_int_int.f (k : Nat) (l0 : List Int) (a1 : Int) : Option (Int) := slices_Index_int_int.l0 k l0 a1 (l0.length : Int) 0
set_option maxHeartbeats 8000000 in
set_option maxRecDepth 100000 in
theorem slices_Index_int_int.calls (k : Nat) (A0 : Option Addr) (c0 : Nat) (l0 : List Int) (a1 : Int) (r : Int) (w : World) (hr0 : Kd.C (Kd.int .i64) w A0 l0.length l0) (hc0 : l0.length ≤ c0) (h : slices_Index_int_int.f k l0 a1 = some r) :
  Calls Try.prog 103 #[.slice A0 l0.length c0, .int .i64 a1] w fun e w' => e = .returned (.int .i64 r) ∧ Drawn0 w w' := by
 have HR0 := Aside0.mk hr0
 have HC0 := Aside0.mk hc0
 clear hr0 hc0
 have H : (slices_Index_int_int.l0 k l0 a1 (l0.length : Int) 0) = some r := h
 clear h
 have H' := Aside0.mk H
 clear H
 go_enter Try.func103, Try.ntmps103
 go_wp2
 go_loopg [8] k (fun kq v8 w' => ∃ (x8_1 : Int), v8 = .int .i64 x8_1 ∧ Aside0 (slices_Index_int_int.l0 kq l0 a1 (l0.length : Int) x8_1 = some r) ∧ Aside0 (kq ≤ k) ∧ Drawn0 w w')
 case atStart => exact ⟨(0), Xr, H', Xkr, by repeat (first | exact Drawn0.refl _ | apply Drawn0.step)⟩
 case round =>
  clear H'
  obtain ⟨x8_1, rfl, HA, HK1, ⟨m1, rfl⟩⟩ := hrel
  cases gk with
  | zero => cases HA.out
  | succ k1 =>
   have H := HA.out
   clear HA
   simp only [slices_Index_int_int.l0] at H
   obtain ⟨c3b0, H⟩ | ⟨c3b0, H⟩ := Xit H
   ·obtain ⟨c4b0, H⟩ := Xid H
    obtain ⟨c5b0, H⟩ := Xid H
    obtain ⟨c6, H⟩ | ⟨c6, H⟩ := Xiu H
    ·have c6b0 : (a1 == (rd l0 x8_1)) = true := beq_iff_eq.mpr c6
     have c6b1 : (a1 != (rd l0 x8_1)) = false := bne_eq_false_iff_eq.mpr c6
     clear c6
     obtain rfl := Option.some.inj H
     have p243 : 0 ≤ (x8_1 : Int) := of_decide_eq_true Xa
     have q243 : x8_1 < (l0.length : Int) := of_decide_eq_true Xa
     obtain ⟨ad243, e243, hx243_0⟩ := Kd.at_int HR0.out x8_1 p243 q243
     cases e243
     replace p243 := eq_true p243
     replace q243 := eq_true q243
     go_wp2
     go_ret
     exact ⟨Xr, Xdr⟩
    ·have c6b0 : (a1 == (rd l0 x8_1)) = false := beq_eq_false_iff_ne.mpr c6
     have c6b1 : (a1 != (rd l0 x8_1)) = true := bne_iff_ne.mpr c6
     have H' := Aside0.mk H
     clear H
     have p243 : 0 ≤ (x8_1 : Int) := of_decide_eq_true Xa
     have q243 : x8_1 < (l0.length : Int) := of_decide_eq_true Xa
     obtain ⟨ad243, e243, hx243_0⟩ := Kd.at_int HR0.out x8_1 p243 q243
     cases e243
     replace p243 := eq_true p243
     replace q243 := eq_true q243
     go_wp2
     go_roundg k1
     case measure => have := HK1.out; omega
     case rel => exact ⟨(wrap64 (x8_1 + 1)), Xr, H', Xk1, by repeat (first | exact Drawn0.refl _ | apply Drawn0.step)⟩
   ·obtain rfl := Option.some.inj H
    go_wp2
    go_ret
    exact ⟨Xr, Xdr⟩

/-! ### slices_Contains_int_int: function 135 -/
def slices_Contains_int_int.f (k : Nat) (l0 : List Int) (a1 : Int) : Option (Bool) := (slices_Index_int_int.f k l0 a1).bind fun t244 => (some (decide (t244 ≥ 0)))
set_option maxHeartbeats 8000000 in
set_option maxRecDepth 100000 in
theorem slices_Contains_int_int.calls (k : Nat) (A0 : Option Addr) (c0 : Nat) (l0 : List Int) (a1 : Int) (r : Bool) (w : World) (hr0 : Kd.C (Kd.int .i64) w A0 l0.length l0) (hc0 : l0.length ≤ c0) (h : slices_Contains_int_int.f k l0 a1 = some r) :
  Calls Try.prog 135 #[.slice A0 l0.length c0, .int .i64 a1] w fun e w' => e = .returned (.bool r) ∧ Drawn0 w w' := by
 have HR0 := Aside0.mk hr0
 have HC0 := Aside0.mk hc0
 clear hr0 hc0
 have H : ((slices_Index_int_int.f k l0 a1).bind fun t244 => (some (decide (t244 ≥ 0)))) = some r := h
 clear h
 obtain ⟨t244, A3, H⟩ := Xbi H
 (try dsimp only at H)
 obtain rfl := Option.some.inj H
 go_enter Try.func135, Try.ntmps135
 go_wp2_with (first | ((with_reducible refine gate_callee (f := 103) rfl ?_); refine Xgo 7 Try.func103 #[.slice A0 l0.length c0, .int .i64 a1] ?_; (with_reducible refine (slices_Index_int_int.calls k _ _ l0 a1 t244 _ ?side1 ?side2 A3.out).mono ?_); (case side1 => repeat (first | exact HR0.out | (with_reducible first | refine Kd.C_alloc ?_ _ | refine Kd.C_drewN ?_ _ | refine Kd.C_drew ?_))); (case side2 => exact HC0.out); rintro e w' ⟨rfl, ⟨nd, rfl⟩⟩; refine ⟨_, rfl, ?_⟩))
 go_ret
 exact ⟨Xr, Xdr⟩

/-! ### impl_lead: function 102 -/
mutual
def impl_lead.l0 : Nat → List (S78) → Int → Int → Int → List (S78) → Int → Int → Option (Int)
 | 0, _, _, _, _, _, _, _ => none
 | k + 1, x0, x1, x2, x7, x11, x12, x13 => if x13 < x12 then (if 0 ≤ x13 then (if x13 < (x11.length : Int) then ((impl_has.f x1 (wrap64 ((wrap64 (2 * x13)) + 1))).bind fun t248 => (if t248 = true then (if ((rd_T78 x11 x13).f1) = 2 then (impl_lead.j1 k x0 x1 x2 x7 x13 true x11 x12 x13 ((rd_T78 x11 x13).f0) ((rd_T78 x11 x13).f1)) else (impl_lead.j1 k x0 x1 x2 x7 x13 (((rd_T78 x11 x13).f1) == 3) x11 x12 x13 ((rd_T78 x11 x13).f0) ((rd_T78 x11 x13).f1))) else (impl_lead.j1 k x0 x1 x2 x7 x13 false x11 x12 x13 ((rd_T78 x11 x13).f0) ((rd_T78 x11 x13).f1)))) else (none)) else (none)) else ((impl_closed.f k x0 x7).bind fun t245 => (some t245))
def impl_lead.j1 : Nat → List (S78) → Int → Int → Int → Int → Bool → List (S78) → Int → Int → List Int → Int → Option (Int)
 | 0, _, _, _, _, _, _, _, _, _, _, _ => none
 | k + 1, x0, x1, x2, x7, x8, x10, x11, x12, x13, x248000, x248001 => (slices_Contains_int_int.f k x248000 x2).bind fun t249 => (if t249 = true then ((impl_has.f x1 (wrap64 (2 * x8))).bind fun t250 => (if t250 = true then (if 0 ≤ (wrap64 ((wrap64 (2 * x8)) + 1)) then (impl_lead.l0 k x0 x1 x2 (Go.bits .or .i64 x7 (shl .i64 1 (wrap64 ((wrap64 (2 * x8)) + 1)))) x11 x12 (wrap64 (x13 + 1))) else (none)) else (if x10 = true then (if 0 ≤ (wrap64 ((wrap64 (2 * x8)) + 1)) then (impl_lead.l0 k x0 x1 x2 (Go.bits .or .i64 x7 (shl .i64 1 (wrap64 ((wrap64 (2 * x8)) + 1)))) x11 x12 (wrap64 (x13 + 1))) else (none)) else (impl_lead.l0 k x0 x1 x2 x7 x11 x12 (wrap64 (x13 + 1)))))) else (impl_lead.l0 k x0 x1 x2 x7 x11 x12 (wrap64 (x13 + 1))))
end
def impl_lead.f (k : Nat) (l0 : List (S78)) (a1 : Int) (a2 : Int) : Option (Int) := impl_lead.l0 k l0 a1 a2 0 l0 (l0.length : Int) 0
set_option maxHeartbeats 8000000 in
set_option maxRecDepth 100000 in
theorem impl_lead.calls (k : Nat) (A0 : Option Addr) (c0 : Nat) (l0 : List (S78)) (a1 : Int) (a2 : Int) (r : Int) (w : World) (hr0 : Kd.C k78 w A0 l0.length l0) (hc0 : l0.length ≤ c0) (h : impl_lead.f k l0 a1 a2 = some r) :
  Calls Try.prog 102 #[.slice A0 l0.length c0, .int .i64 a1, .int .i64 a2] w fun e w' => e = .returned (.int .i64 r) ∧ Below w.heap.size w w' := by
 have hu78 := Try.underlying78
 have HR0 := Aside0.mk hr0
 have HC0 := Aside0.mk hc0
 clear hr0 hc0
 have HB := Aside0.mk (Below.refl w.heap.size w)
 have H : (impl_lead.l0 k l0 a1 a2 0 l0 (l0.length : Int) 0) = some r := h
 clear h
 have H' := Aside0.mk H
 clear H
 go_enter Try.func102, Try.ntmps102
 go_wp2
 go_loopg [7, 13] k (fun kq v7 v13 w' => ∃ (x7_1 : Int) (x13_1 : Int), v7 = .int .i64 x7_1 ∧ v13 = .int .i64 x13_1 ∧ Aside0 (impl_lead.l0 kq l0 a1 a2 x7_1 l0 (l0.length : Int) x13_1 = some r) ∧ Aside0 (kq ≤ k) ∧ Aside0 (Below w.heap.size w w'))
 case atStart => exact ⟨(0), (0), Xr, Xr, H', Xkr, ⟨Xi⟩⟩
 case round =>
  clear H'
  obtain ⟨x7_1, x13_1, rfl, rfl, HA, HK1, HB⟩ := hrel
  cases gk with
  | zero => cases HA.out
  | succ k1 =>
   have H := HA.out
   clear HA
   simp only [impl_lead.l0] at H
   obtain ⟨c4b0, H⟩ | ⟨c4b0, H⟩ := Xit H
   ·obtain ⟨c5b0, H⟩ := Xid H
    obtain ⟨c6b0, H⟩ := Xid H
    have HC7 := Aside0.mk H
    clear H
    obtain ⟨ad246, A246_0, c246_0, e246, p246, q246, hx246_0, hx246_1, HC246_0, HR246_0⟩ := at_B78 HR0 x13_1 Xa Xa HB
    cases e246
    go_upto_region 5 with (first | ((with_reducible refine gate_dst (N := 9) rfl ?_); refine Xbox 9 #[.slice none 0 0, .int .i64 0] 78 ?_; intro gb247 hg w8 hbox hb; have BK247 := Aside0.mk (hbox); have GE247 := Xge hg Xi; replace HB := Aside0.mk (below_step Xi hb); clear hb hbox hg; obtain ⟨hcz9_0, hcz9_1⟩ := Xc2 BK247; obtain ⟨hfz9_0, hfz9_1⟩ := Xf2 BK247))
    (try simp only [XW.q0, XW.q1, XW.q2])
    go_cut [10] (fun v10 wc => ∃ (kq : Nat) (x10_6 : Bool), v10 = .bool x10_6 ∧ Aside0 (impl_lead.j1 kq l0 a1 a2 x7_1 x13_1 x10_6 l0 (l0.length : Int) x13_1 ((rd_T78 l0 x13_1).f0) ((rd_T78 l0 x13_1).f1) = some r) ∧ Aside0 (kq ≤ k1) ∧ Aside0 (wc.heap[gb247]? = some (.cells #[(.slice A246_0 ((rd_T78 l0 x13_1).f0).length c246_0), .int .i64 ((rd_T78 l0 x13_1).f1)] 78 (0, 0))) ∧ Aside0 (Below w.heap.size w wc))
    case first =>
     have H := HC7.out
     clear HC7
     obtain ⟨t248, A10, H⟩ := Xbi H
     (try dsimp only at H)
     by_cases c11 : t248 = true
     ·subst c11
      (first | rw [if_pos rfl] at H | skip)
      obtain ⟨c12, H⟩ | ⟨c12, H⟩ := Xiu H
      ·have c12b0 : (((rd_T78 l0 x13_1).f1) == 2) = true := beq_iff_eq.mpr c12
       have c12b1 : (((rd_T78 l0 x13_1).f1) != 2) = false := bne_eq_false_iff_eq.mpr c12
       clear c12
       (first | rw [c12b0] | (simp only [i64_w, i32_w]; rw [c12b0]) | skip)
       have H' := Aside0.mk H
       clear H
       go_wp2_with (first | ((with_reducible refine gate_callee (f := 104) rfl ?_); refine Xgo 22 Try.func104 #[.int .i64 a1, .int .i64 (wrap64 ((wrap64 (2 * x13_1)) + 1))] ?_; (with_reducible refine (impl_has.calls a1 (wrap64 ((wrap64 (2 * x13_1)) + 1)) true _ A10.out).mono ?_); rintro e w' ⟨rfl, ⟨nd, rfl⟩⟩; refine ⟨_, rfl, ?_⟩; obtain ⟨hcz13_0, hcz13_1⟩ := Xc2 BK247; obtain ⟨hfz13_0, hfz13_1⟩ := Xf2 BK247))
       go_meet
       case rel => exact ⟨_, (true), Xr, H', ⟨by have := HK1.out; first | omega | exact Nat.le_refl _⟩, ⟨by (with_reducible repeat (first | refine blk_drewN ?_ _ | refine blk_drew ?_ | refine blk_alloc ?_ _)); refine blk_put (cs := #[.slice A246_0 ((rd_T78 l0 x13_1).f0).length c246_0, .int .i64 0]) ?_ 1 _ rfl; (with_reducible repeat (first | refine blk_drewN ?_ _ | refine blk_drew ?_ | refine blk_alloc ?_ _)); refine blk_put (cs := #[.slice none 0 0, .int .i64 0]) ?_ 0 _ rfl; (with_reducible repeat (first | refine blk_drewN ?_ _ | refine blk_drew ?_ | refine blk_alloc ?_ _)); exact BK247.out⟩, ⟨Xi⟩⟩
      ·have c12b0 : (((rd_T78 l0 x13_1).f1) == 2) = false := beq_eq_false_iff_ne.mpr c12
       have c12b1 : (((rd_T78 l0 x13_1).f1) != 2) = true := bne_iff_ne.mpr c12
       (first | rw [c12b0] | (simp only [i64_w, i32_w]; rw [c12b0]) | skip)
       have H' := Aside0.mk H
       clear H
       go_wp2_with (first | ((with_reducible refine gate_callee (f := 104) rfl ?_); refine Xgo 22 Try.func104 #[.int .i64 a1, .int .i64 (wrap64 ((wrap64 (2 * x13_1)) + 1))] ?_; (with_reducible refine (impl_has.calls a1 (wrap64 ((wrap64 (2 * x13_1)) + 1)) true _ A10.out).mono ?_); rintro e w' ⟨rfl, ⟨nd, rfl⟩⟩; refine ⟨_, rfl, ?_⟩; obtain ⟨hcz14_0, hcz14_1⟩ := Xc2 BK247; obtain ⟨hfz14_0, hfz14_1⟩ := Xf2 BK247))
       go_meet
       case rel => exact ⟨_, ((((rd_T78 l0 x13_1).f1) == 3)), Xr, H', ⟨by have := HK1.out; first | omega | exact Nat.le_refl _⟩, ⟨by (with_reducible repeat (first | refine blk_drewN ?_ _ | refine blk_drew ?_ | refine blk_alloc ?_ _)); refine blk_put (cs := #[.slice A246_0 ((rd_T78 l0 x13_1).f0).length c246_0, .int .i64 0]) ?_ 1 _ rfl; (with_reducible repeat (first | refine blk_drewN ?_ _ | refine blk_drew ?_ | refine blk_alloc ?_ _)); refine blk_put (cs := #[.slice none 0 0, .int .i64 0]) ?_ 0 _ rfl; (with_reducible repeat (first | refine blk_drewN ?_ _ | refine blk_drew ?_ | refine blk_alloc ?_ _)); exact BK247.out⟩, ⟨Xi⟩⟩
     ·replace c11 := Bool.eq_false_iff.mpr c11
      subst c11
      (first | rw [if_neg (show ¬ (false = true) by decide)] at H | skip)
      have H' := Aside0.mk H
      clear H
      go_wp2_with (first | ((with_reducible refine gate_callee (f := 104) rfl ?_); refine Xgo 22 Try.func104 #[.int .i64 a1, .int .i64 (wrap64 ((wrap64 (2 * x13_1)) + 1))] ?_; (with_reducible refine (impl_has.calls a1 (wrap64 ((wrap64 (2 * x13_1)) + 1)) false _ A10.out).mono ?_); rintro e w' ⟨rfl, ⟨nd, rfl⟩⟩; refine ⟨_, rfl, ?_⟩))
      go_meet
      case rel => exact ⟨_, (false), Xr, H', ⟨by have := HK1.out; first | omega | exact Nat.le_refl _⟩, ⟨by (with_reducible repeat (first | refine blk_drewN ?_ _ | refine blk_drew ?_ | refine blk_alloc ?_ _)); refine blk_put (cs := #[.slice A246_0 ((rd_T78 l0 x13_1).f0).length c246_0, .int .i64 0]) ?_ 1 _ rfl; (with_reducible repeat (first | refine blk_drewN ?_ _ | refine blk_drew ?_ | refine blk_alloc ?_ _)); refine blk_put (cs := #[.slice none 0 0, .int .i64 0]) ?_ 0 _ rfl; (with_reducible repeat (first | refine blk_drewN ?_ _ | refine blk_drew ?_ | refine blk_alloc ?_ _)); exact BK247.out⟩, ⟨Xi⟩⟩
    case rest =>
     clear HC7
     (try clear c4); (try clear c4b0); (try clear c5); (try clear c5b0); (try clear c6); (try clear c6b0); (try clear hcz9_0); (try clear hcz9_1); (try clear hfz9_0); (try clear hfz9_1); (try clear hx246_0); (try clear hx246_1); (try clear p246); (try clear q246)
     obtain ⟨kq, x10_6, rfl, HA, HJ6, BK247, HB⟩ := hcut
     cases kq with
     | zero => cases HA.out
     | succ kj6 =>
      have H := HA.out
      clear HA
      simp only [impl_lead.j1] at H
      obtain ⟨t249, A15, H⟩ := Xbi H
      (try dsimp only at H)
      by_cases c16 : t249 = true
      ·subst c16
       (first | rw [if_pos rfl] at H | skip)
       obtain ⟨t250, A17, H⟩ := Xbi H
       (try dsimp only at H)
       by_cases c18 : t250 = true
       ·subst c18
        (first | rw [if_pos rfl] at H | skip)
        obtain ⟨ji19, hji19⟩ : ∃ j_ : Int, (wrap64 ((wrap64 (2 * x13_1)) + 1)) = j_ := ⟨_, rfl⟩
        replace H : (if 0 ≤ (ji19) then (impl_lead.l0 kj6 l0 a1 a2 (Go.bits .or .i64 x7_1 (shl .i64 1 (ji19))) l0 (l0.length : Int) (wrap64 (x13_1 + 1))) else (none)) = some r := by first | (rw [hji19] at H; exact H) | (simp only [hji19] at H ⊢; exact H)
        (try rw [hji19] at A15)
        (try rw [hji19] at A17)
        have hji19w : (IntKind.i64.wrap ((wrap64 (2 * x13_1)) + 1)) = ji19 := (i64_w _).trans hji19
        obtain ⟨c20, H⟩ := Xif H
        have c20b0 := eq_true c20
        have c20b1 : decide (0 ≤ (ji19)) = true := decide_eq_true c20
        clear c20
        obtain ⟨ji21, hji21⟩ : ∃ j_ : Int, (shl .i64 1 (ji19)) = j_ := ⟨_, rfl⟩
        replace H : (impl_lead.l0 kj6 l0 a1 a2 (Go.bits .or .i64 x7_1 (ji21)) l0 (l0.length : Int) (wrap64 (x13_1 + 1))) = some r := by first | (rw [hji21] at H; exact H) | (simp only [hji21] at H ⊢; exact H)
        (try rw [hji21] at A15)
        (try rw [hji21] at A17)
        have hji21_ : (IntKind.i64.wrap (1 * 2 ^ min (ji19).toNat 64)) = ji21 := hji21
        have hji21z : (ji19) ≤ 64 → (IntKind.i64.wrap (1 * 2 ^ (ji19).toNat)) = ji21 := shl_small hji21
        have hji21u : (IntKind.i64.wrap (2 ^ min (ji19).toNat 64)) = ji21 := by have h_ := hji21_; rw [Int.one_mul] at h_; exact h_
        have hji21v : (ji19) ≤ 64 → (IntKind.i64.wrap (2 ^ (ji19).toNat)) = ji21 := fun hle_ => by have h_ := hji21z hle_; rw [Int.one_mul] at h_; exact h_
        have hji21y : (wrap64 (1 * 2 ^ min (ji19).toNat 64)) = ji21 := (i64_w _).symm.trans hji21_
        have hji21x : (ji19) ≤ 64 → (wrap64 (1 * 2 ^ (ji19).toNat)) = ji21 := fun h_ => (i64_w _).symm.trans (hji21z h_)
        have H' := Aside0.mk H
        clear H
        obtain ⟨hcz22_0, hcz22_1⟩ := Xc2 BK247
        obtain ⟨hfz22_0, hfz22_1⟩ := Xf2 BK247
        go_wp2_with (first | ((with_reducible refine gate_callee (f := 135) rfl ?_); refine Xgo 36 Try.func135 #[.slice A246_0 ((rd_T78 l0 x13_1).f0).length c246_0, .int .i64 a2] ?_; (with_reducible refine (slices_Contains_int_int.calls kj6 _ _ ((rd_T78 l0 x13_1).f0) a2 true _ ?side1 ?side2 A15.out).mono ?_); (case side1 => exact Xc HR246_0); (case side2 => exact HC246_0.out); rintro e w' ⟨rfl, ⟨nd, rfl⟩⟩; refine ⟨_, rfl, ?_⟩) | (go_at_call 104; (with_reducible refine (impl_has.calls a1 (wrap64 (2 * x13_1)) true _ A17.out).mono ?_); rintro e w' ⟨rfl, ⟨nd, rfl⟩⟩))
        go_roundg kj6
        case measure => have := HK1.out; have := HJ6.out; omega
        case rel => exact ⟨(Go.bits .or .i64 x7_1 (ji21)), (wrap64 (x13_1 + 1)), (by first | rfl | (simp; done) | (simp only [← hji21] <;> (first | rfl | simp)) | (simp [*]; done)), Xr, H', ⟨by have := HK1.out; have := HJ6.out; omega⟩, ⟨Xi⟩⟩
       ·replace c18 := Bool.eq_false_iff.mpr c18
        subst c18
        (first | rw [if_neg (show ¬ (false = true) by decide)] at H | skip)
        have HC23 := Aside0.mk H
        clear H
        obtain ⟨hcz24_0, hcz24_1⟩ := Xc2 BK247
        obtain ⟨hfz24_0, hfz24_1⟩ := Xf2 BK247
        go_upto_if 45 with (first | ((with_reducible refine gate_callee (f := 135) rfl ?_); refine Xgo 36 Try.func135 #[.slice A246_0 ((rd_T78 l0 x13_1).f0).length c246_0, .int .i64 a2] ?_; (with_reducible refine (slices_Contains_int_int.calls kj6 _ _ ((rd_T78 l0 x13_1).f0) a2 true _ ?side1 ?side2 A15.out).mono ?_); (case side1 => exact Xc HR246_0); (case side2 => exact HC246_0.out); rintro e w' ⟨rfl, ⟨nd, rfl⟩⟩; refine ⟨_, rfl, ?_⟩) | (go_at_call 104; (with_reducible refine (impl_has.calls a1 (wrap64 (2 * x13_1)) false _ A17.out).mono ?_); rintro e w' ⟨rfl, ⟨nd, rfl⟩⟩))
        have H := HC23.out
        clear HC23
        by_cases c25 : x10_6 = true
        ·subst c25
         (first | rw [if_pos rfl] at H | skip)
         obtain ⟨ji26, hji26⟩ : ∃ j_ : Int, (wrap64 ((wrap64 (2 * x13_1)) + 1)) = j_ := ⟨_, rfl⟩
         replace H : (if 0 ≤ (ji26) then (impl_lead.l0 kj6 l0 a1 a2 (Go.bits .or .i64 x7_1 (shl .i64 1 (ji26))) l0 (l0.length : Int) (wrap64 (x13_1 + 1))) else (none)) = some r := by first | (rw [hji26] at H; exact H) | (simp only [hji26] at H ⊢; exact H)
         have hji26w : (IntKind.i64.wrap ((wrap64 (2 * x13_1)) + 1)) = ji26 := (i64_w _).trans hji26
         obtain ⟨c27, H⟩ := Xif H
         have c27b0 := eq_true c27
         have c27b1 : decide (0 ≤ (ji26)) = true := decide_eq_true c27
         clear c27
         obtain ⟨ji28, hji28⟩ : ∃ j_ : Int, (shl .i64 1 (ji26)) = j_ := ⟨_, rfl⟩
         replace H : (impl_lead.l0 kj6 l0 a1 a2 (Go.bits .or .i64 x7_1 (ji28)) l0 (l0.length : Int) (wrap64 (x13_1 + 1))) = some r := by first | (rw [hji28] at H; exact H) | (simp only [hji28] at H ⊢; exact H)
         have hji28_ : (IntKind.i64.wrap (1 * 2 ^ min (ji26).toNat 64)) = ji28 := hji28
         have hji28z : (ji26) ≤ 64 → (IntKind.i64.wrap (1 * 2 ^ (ji26).toNat)) = ji28 := shl_small hji28
         have hji28u : (IntKind.i64.wrap (2 ^ min (ji26).toNat 64)) = ji28 := by have h_ := hji28_; rw [Int.one_mul] at h_; exact h_
         have hji28v : (ji26) ≤ 64 → (IntKind.i64.wrap (2 ^ (ji26).toNat)) = ji28 := fun hle_ => by have h_ := hji28z hle_; rw [Int.one_mul] at h_; exact h_
         have hji28y : (wrap64 (1 * 2 ^ min (ji26).toNat 64)) = ji28 := (i64_w _).symm.trans hji28_
         have hji28x : (ji26) ≤ 64 → (wrap64 (1 * 2 ^ (ji26).toNat)) = ji28 := fun h_ => (i64_w _).symm.trans (hji28z h_)
         have H' := Aside0.mk H
         clear H
         go_wp2
         go_roundg kj6
         case measure => have := HK1.out; have := HJ6.out; omega
         case rel => exact ⟨(Go.bits .or .i64 x7_1 (ji28)), (wrap64 (x13_1 + 1)), (by first | rfl | (simp; done) | (simp only [← hji28] <;> (first | rfl | simp)) | (simp [*]; done)), Xr, H', ⟨by have := HK1.out; have := HJ6.out; omega⟩, ⟨Xi⟩⟩
        ·replace c25 := Bool.eq_false_iff.mpr c25
         subst c25
         (first | rw [if_neg (show ¬ (false = true) by decide)] at H | skip)
         have H' := Aside0.mk H
         clear H
         go_wp2
         go_roundg kj6
         case measure => have := HK1.out; have := HJ6.out; omega
         case rel => exact ⟨(x7_1), (wrap64 (x13_1 + 1)), Xr, Xr, H', ⟨by have := HK1.out; have := HJ6.out; omega⟩, ⟨Xi⟩⟩
      ·replace c16 := Bool.eq_false_iff.mpr c16
       subst c16
       (first | rw [if_neg (show ¬ (false = true) by decide)] at H | skip)
       have H' := Aside0.mk H
       clear H
       obtain ⟨hcz29_0, hcz29_1⟩ := Xc2 BK247
       obtain ⟨hfz29_0, hfz29_1⟩ := Xf2 BK247
       go_wp2_with (first | ((with_reducible refine gate_callee (f := 135) rfl ?_); refine Xgo 36 Try.func135 #[.slice A246_0 ((rd_T78 l0 x13_1).f0).length c246_0, .int .i64 a2] ?_; (with_reducible refine (slices_Contains_int_int.calls kj6 _ _ ((rd_T78 l0 x13_1).f0) a2 false _ ?side1 ?side2 A15.out).mono ?_); (case side1 => exact Xc HR246_0); (case side2 => exact HC246_0.out); rintro e w' ⟨rfl, ⟨nd, rfl⟩⟩; refine ⟨_, rfl, ?_⟩))
       go_roundg kj6
       case measure => have := HK1.out; have := HJ6.out; omega
       case rel => exact ⟨(x7_1), (wrap64 (x13_1 + 1)), Xr, Xr, H', ⟨by have := HK1.out; have := HJ6.out; omega⟩, ⟨Xi⟩⟩
   ·obtain ⟨t245, A30, H⟩ := Xbi H
    (try dsimp only at H)
    obtain rfl := Option.some.inj H
    go_wp2_with (first | ((with_reducible refine gate_callee (f := 101) rfl ?_); refine Xgo 55 Try.func101 #[.slice A0 l0.length c0, .int .i64 x7_1] ?_; (with_reducible refine (impl_closed.calls k1 _ _ l0 x7_1 t245 _ ?side1 ?side2 A30.out).mono ?_); (case side1 => exact Xc HR0); (case side2 => exact HC0.out); rintro e w31 ⟨rfl, hb⟩; refine ⟨_, rfl, ?_⟩; replace HB := Aside0.mk (below_step Xi hb); clear hb))
    go_ret
    exact ⟨Xe, Xi⟩

end Go.Proofs.Ythkbgbkglgmpoaa.XA
