/- Contracts of the program's functions: each Go function that is named below comes to what its Lean function says. Written by xprint.py (a program of this session's, over the kit's print). Conditions: each contract's own premises. -/
import Derived.Test.YtpdhccdmbdbdpaaYCheckNode0
import Derived.Test.YtpdhccdmbdbdpaaYCheckNode16
namespace Go.Proofs.Ytpdhccdmbdbdpaa.XA
open Go.RowKit Go.Proofs.YtpdhccdmbdbdpaaW.PrintWords Go.Proofs.YtpdhccdmbdbdpaaW.PrintLast Go.Proofs.YtpdhccdmbdbdpaaW.PrintMore XW
attribute [local go_sem] max2_int min2_int max_two min_two max_three min_three max_four min_four   -- for this text's walks alone
set_option linter.unusedVariables false
set_option linter.unusedSimpArgs false

/-! ### impl_matches: function 117 -/
mutual
def impl_matches.j0 : Nat → List (S135) → List Int → Int → Int → Bool → List Int → Int → Option (Bool)
 | 0, _, _, _, _, _, _, _ => none
 | k + 1, x0, x1, x6, x7, x27, x382000, x382001 => if x27 = true then (impl_matches.j1 k x0 x1 0 x7 x382000 x382001) else (impl_matches.j1 k x0 x1 x6 x7 x382000 x382001)
def impl_matches.j1 : Nat → List (S135) → List Int → Int → Int → List Int → Int → Option (Bool)
 | 0, _, _, _, _, _, _ => none
 | k + 1, x0, x1, x6, x7, x382000, x382001 => if x382001 = 0 then (impl_matches.j2 k x0 x1 x6 x7 true x382000 x382001) else (impl_matches.j2 k x0 x1 x6 x7 (x382001 == 1) x382000 x382001)
def impl_matches.j2 : Nat → List (S135) → List Int → Int → Int → Bool → List Int → Int → Option (Bool)
 | 0, _, _, _, _, _, _, _ => none
 | k + 1, x0, x1, x6, x7, x35, x382000, x382001 => if x35 = true then (impl_matches.j3 k x0 x1 x6 (mn x7 1) x382000 x382001) else (impl_matches.j3 k x0 x1 x6 x7 x382000 x382001)
def impl_matches.j3 : Nat → List (S135) → List Int → Int → Int → List Int → Int → Option (Bool)
 | 0, _, _, _, _, _, _ => none
 | k + 1, x0, x1, x6, x7, x382000, x382001 => impl_matches.l0 k x0 x1 x6 x7 0 x382000 x382001
def impl_matches.l0 : Nat → List (S135) → List Int → Int → Int → Int → List Int → Int → Option (Bool)
 | 0, _, _, _, _, _, _, _ => none
 | k + 1, x0, x1, x6, x7, x8, x382000, x382001 => if x8 ≤ x7 then (if x8 > 0 then (if 0 ≤ (wrap64 (x8 - 1)) then (if (wrap64 (x8 - 1)) < (x1.length : Int) then ((slices_Contains_int_int.f k x382000 (rd x1 (wrap64 (x8 - 1)))).bind fun t383 => (impl_matches.j5 k x0 x1 x6 x7 x8 (!t383) x382000 x382001)) else (none)) else (none)) else (impl_matches.j5 k x0 x1 x6 x7 x8 false x382000 x382001)) else (some false)
def impl_matches.j5 : Nat → List (S135) → List Int → Int → Int → Int → Bool → List Int → Int → Option (Bool)
 | 0, _, _, _, _, _, _, _, _ => none
 | k + 1, x0, x1, x6, x7, x8, x55, x382000, x382001 => if x55 = true then (some false) else (if x8 ≥ x6 then (if 1 ≤ (x0.length : Int) then (if 0 ≤ x8 then (if x8 ≤ (x1.length : Int) then ((impl_matches.f k (x0.drop 1) (x1.drop (x8 : Int).toNat)).bind fun t389 => (if t389 = true then (some true) else (impl_matches.l0 k x0 x1 x6 x7 (wrap64 (x8 + 1)) x382000 x382001))) else (none)) else (none)) else (none)) else (impl_matches.l0 k x0 x1 x6 x7 (wrap64 (x8 + 1)) x382000 x382001))
def impl_matches.f : Nat → List (S135) → List Int → Option (Bool)
 | 0, _, _ => none
 | k + 1, l0, l1 => if (l0.length : Int) = 0 then (some ((l1.length : Int) == 0)) else (if 0 < (l0.length : Int) then (if ((rd_T135 l0 0).f1) = 1 then (impl_matches.j0 k l0 l1 1 (l1.length : Int) true ((rd_T135 l0 0).f0) ((rd_T135 l0 0).f1)) else (impl_matches.j0 k l0 l1 1 (l1.length : Int) (((rd_T135 l0 0).f1) == 2) ((rd_T135 l0 0).f0) ((rd_T135 l0 0).f1))) else (none))
end
def impl_matches.T12 : Bool × List (List Nat × List Nat) := (true, [([], []), ([0], [0]), ([1], [1]), ([2], [2]), ([3, 2], [2, 3]), ([2], [2]), ([2], [2]), ([6, 2], [2, 6]), ([5, 7, 2], [2, 5, 7]), ([8, 2], [2, 8]), ([4, 9, 2, 2], [2, 4, 9]), ([10, 2], [2, 10]), ([2, 11], [2, 11])])
def impl_matches.B12 : List Nat := [0, 1, 3, 7, 15, 7, 7, 71, 231, 487, 1023, 2047, 4095]
theorem impl_matches.tab12 : rtab .any (opsOf Try.f117 12) = impl_matches.T12 := by kernel_rfl
theorem impl_matches.bits12 : waitsOk impl_matches.T12.2 impl_matches.B12 = true := by kernel_rfl
def impl_matches.T13 : Bool × List (List Nat × List Nat) := (true, [([], []), ([], []), ([0, 1], [0, 1]), ([2], [2]), ([3], [3]), ([4, 3], [3, 4]), ([3], [3]), ([3], [3]), ([6, 7, 3], [3, 6, 7]), ([5, 8, 3, 3], [3, 5, 8]), ([3, 9], [3, 9])])
def impl_matches.B13 : List Nat := [0, 0, 3, 7, 15, 31, 15, 15, 207, 511, 1023]
theorem impl_matches.tab13 : rtab .any (opsOf Try.f117 13) = impl_matches.T13 := by kernel_rfl
theorem impl_matches.bits13 : waitsOk impl_matches.T13.2 impl_matches.B13 = true := by kernel_rfl
set_option maxHeartbeats 8000000 in
set_option maxRecDepth 100000 in
theorem impl_matches.calls (k : Nat) : ∀ (A0 : Option Addr) (c0 : Nat) (l0 : List (S135)) (A1 : Option Addr) (c1 : Nat) (l1 : List Int) (r : Bool) (w : World) (hr0 : Kd.C k135 w A0 l0.length l0) (hc0 : l0.length ≤ c0) (hr1 : Kd.C (Kd.int .i64) w A1 l1.length l1) (hc1 : l1.length ≤ c1) (h : impl_matches.f k l0 l1 = some r),
  Calls Try.prog 117 #[.slice A0 l0.length c0, .slice A1 l1.length c1] w fun e w' => e = .returned (.bool r) ∧ Below w.heap.size w w' := by
 induction k using Nat.strongRecOn with
 | _ k ih =>
 intro A0 c0 l0 A1 c1 l1 r w hr0 hc0 hr1 hc1 h
 cases k with
 | zero => exact absurd h (by simp [impl_matches.f])
 | succ k =>
 simp only [impl_matches.f] at h
 have hu135 := Try.underlying135
 have HR0 := Aside0.mk hr0
 have HC0 := Aside0.mk hc0
 clear hr0 hc0
 have HR1 := Aside0.mk hr1
 have HC1 := Aside0.mk hc1
 clear hr1 hc1
 have HB := Aside0.mk (Below.refl w.heap.size w)
 have H : (if (l0.length : Int) = 0 then (some ((l1.length : Int) == 0)) else (if 0 < (l0.length : Int) then (if ((rd_T135 l0 0).f1) = 1 then (impl_matches.j0 k l0 l1 1 (l1.length : Int) true ((rd_T135 l0 0).f0) ((rd_T135 l0 0).f1)) else (impl_matches.j0 k l0 l1 1 (l1.length : Int) (((rd_T135 l0 0).f1) == 2) ((rd_T135 l0 0).f0) ((rd_T135 l0 0).f1))) else (none))) = some r := h
 clear h
 obtain ⟨c3, H⟩ | ⟨c3, H⟩ := Xiu H
 ·have c3b0 : ((l0.length : Int) == 0) = true := beq_iff_eq.mpr c3
  have c3b1 : ((l0.length : Int) != 0) = false := bne_eq_false_iff_eq.mpr c3
  clear c3
  obtain rfl := Option.some.inj H
  go_enter Try.func117, Try.ntmps117
  go_wp2
  go_ret
  exact ⟨Xe, Xi⟩
 ·have c3b0 : ((l0.length : Int) == 0) = false := beq_eq_false_iff_ne.mpr c3
  have c3b1 : ((l0.length : Int) != 0) = true := bne_iff_ne.mpr c3
  have c3b2 : ¬ (l0 = []) := fun h_ => c3 (by rw [h_]; rfl)
  obtain ⟨c4, H⟩ | ⟨c4, H⟩ := Xiu H
  ·have c4b0 : decide (0 < (l0.length : Int)) = true := decide_eq_true c4
   have c4b1 : decide (0 < l0.length) = true := decide_eq_true (by omega)
   clear c4
   have HC5 := Aside0.mk H
   clear H
   have p380 : 0 ≤ (0 : Int) := (by omega)
   have q380 : 0 < (l0.length : Int) := of_decide_eq_true Xa
   obtain ⟨ad380, A380_0, c380_0, e380, hx380_0, hx380_1, hl380_0, hi380_0⟩ := at_T135 HR0.out 0 p380 q380
   cases e380
   have qi380 : (0 < l0.length) = True := eq_true (by omega)
   (try rw [show ((0 : Int)).toNat = 0 from rfl] at hx380_0)
   (try rw [show 0 * 2 = 0 from rfl] at hx380_0)
   (try rw [Addr.add_zero'] at hx380_0)
   (try rw [show ((0 : Int)).toNat = 0 from rfl] at hx380_1)
   (try rw [show 0 * 2 = 0 from rfl] at hx380_1)
   (try rw [Addr.add_zero'] at hx380_1)
   have HR380_0 := Aside0.mk hi380_0
   have HC380_0 := Aside0.mk hl380_0
   clear hi380_0 hl380_0
   replace p380 := eq_true p380
   replace q380 := eq_true q380
   go_enter Try.func117, Try.ntmps117
   go_upto_region 5 with (first | ((with_reducible refine gate_dst (N := 5) rfl ?_); refine Xbox 5 #[.slice none 0 0, .int .i64 0] 135 ?_; intro gb381 hg w6 hbox hb; have BK381 := Aside0.mk (hbox); have GE381 := Xge hg Xi; replace HB := Aside0.mk (below_step Xi hb); clear hb hbox hg; obtain ⟨hcz7_0, hcz7_1⟩ := Xc2 BK381; obtain ⟨hfz7_0, hfz7_1⟩ := Xf2 BK381))
   (try simp only [XW.q0, XW.q1, XW.q2])
   go_cut [27] (fun v27 wc => ∃ (kq : Nat) (x27_4 : Bool), v27 = .bool x27_4 ∧ Aside0 (impl_matches.j0 kq l0 l1 1 (l1.length : Int) x27_4 ((rd_T135 l0 0).f0) ((rd_T135 l0 0).f1) = some r) ∧ Aside0 (kq ≤ k) ∧ Aside0 (wc.heap[gb381]? = some (.cells #[(.slice A380_0 ((rd_T135 l0 0).f0).length c380_0), .int .i64 ((rd_T135 l0 0).f1)] 135 (0, 0))) ∧ Aside0 (Below w.heap.size w wc))
   case first =>
    have H := HC5.out
    clear HC5
    obtain ⟨c8, H⟩ | ⟨c8, H⟩ := Xiu H
    ·have c8b0 : (((rd_T135 l0 0).f1) == 1) = true := beq_iff_eq.mpr c8
     have c8b1 : (((rd_T135 l0 0).f1) != 1) = false := bne_eq_false_iff_eq.mpr c8
     clear c8
     (first | rw [c8b0] | (simp only [i64_w, i32_w]; rw [c8b0]) | skip)
     have H' := Aside0.mk H
     clear H
     obtain ⟨hcz9_0, hcz9_1⟩ := Xc2 BK381
     obtain ⟨hfz9_0, hfz9_1⟩ := Xf2 BK381
     go_wp2
     go_meet
     case rel => exact ⟨_, (true), Xr, H', Xko, ⟨by (with_reducible repeat (first | refine blk_drewN ?_ _ | refine blk_drew ?_ | refine blk_alloc ?_ _)); refine blk_put (cs := #[.slice A380_0 ((rd_T135 l0 0).f0).length c380_0, .int .i64 0]) ?_ 1 _ rfl; (with_reducible repeat (first | refine blk_drewN ?_ _ | refine blk_drew ?_ | refine blk_alloc ?_ _)); refine blk_put (cs := #[.slice none 0 0, .int .i64 0]) ?_ 0 _ rfl; (with_reducible repeat (first | refine blk_drewN ?_ _ | refine blk_drew ?_ | refine blk_alloc ?_ _)); exact BK381.out⟩, ⟨Xi⟩⟩
    ·have c8b0 : (((rd_T135 l0 0).f1) == 1) = false := beq_eq_false_iff_ne.mpr c8
     have c8b1 : (((rd_T135 l0 0).f1) != 1) = true := bne_iff_ne.mpr c8
     (first | rw [c8b0] | (simp only [i64_w, i32_w]; rw [c8b0]) | skip)
     have H' := Aside0.mk H
     clear H
     obtain ⟨hcz10_0, hcz10_1⟩ := Xc2 BK381
     obtain ⟨hfz10_0, hfz10_1⟩ := Xf2 BK381
     go_wp2
     go_meet
     case rel => exact ⟨_, ((((rd_T135 l0 0).f1) == 2)), Xr, H', Xko, ⟨by (with_reducible repeat (first | refine blk_drewN ?_ _ | refine blk_drew ?_ | refine blk_alloc ?_ _)); refine blk_put (cs := #[.slice A380_0 ((rd_T135 l0 0).f0).length c380_0, .int .i64 0]) ?_ 1 _ rfl; (with_reducible repeat (first | refine blk_drewN ?_ _ | refine blk_drew ?_ | refine blk_alloc ?_ _)); refine blk_put (cs := #[.slice none 0 0, .int .i64 0]) ?_ 0 _ rfl; (with_reducible repeat (first | refine blk_drewN ?_ _ | refine blk_drew ?_ | refine blk_alloc ?_ _)); exact BK381.out⟩, ⟨Xi⟩⟩
   case rest =>
    clear HC5
    (try clear c1); (try clear c3); (try clear c3b0); (try clear c3b1); (try clear c3b2); (try clear c4); (try clear c4b0); (try clear c4b1); (try clear hcz7_0); (try clear hcz7_1); (try clear hfz7_0); (try clear hfz7_1); (try clear hx380_0); (try clear hx380_1); (try clear p380); (try clear q380)
    obtain ⟨kq, x27_4, rfl, HA, HJ4, BK381, HB⟩ := hcut
    cases kq with
    | zero => cases HA.out
    | succ kj4 =>
     have H := HA.out
     clear HA
     simp only [impl_matches.j0] at H
     have HC11 := Aside0.mk H
     clear H
     go_upto_if 27 with (fail)
     go_cut [6] (fun v6 wc => ∃ (kq : Nat) (x6_10 : Int), v6 = .int .i64 x6_10 ∧ Aside0 (impl_matches.j1 kq l0 l1 x6_10 (l1.length : Int) ((rd_T135 l0 0).f0) ((rd_T135 l0 0).f1) = some r) ∧ Aside0 (kq ≤ kj4) ∧ Aside0 (wc.heap[gb381]? = some (.cells #[(.slice A380_0 ((rd_T135 l0 0).f0).length c380_0), .int .i64 ((rd_T135 l0 0).f1)] 135 (0, 0))) ∧ Aside0 (Below w.heap.size w wc))
     case first =>
      have H := HC11.out
      clear HC11
      by_cases c12 : x27_4 = true
      ·subst c12
       (first | rw [if_pos rfl] at H | skip)
       have H' := Aside0.mk H
       clear H
       go_wp2
       go_meet
       case rel => exact ⟨_, (0), Xr, H', ⟨by have := HJ4.out; first | omega | exact Nat.le_refl _⟩, BK381, ⟨Xi⟩⟩
      ·replace c12 := Bool.eq_false_iff.mpr c12
       subst c12
       (first | rw [if_neg (show ¬ (false = true) by decide)] at H | skip)
       have H' := Aside0.mk H
       clear H
       go_wp2
       go_meet
       case rel => exact ⟨_, (1), Xr, H', ⟨by have := HJ4.out; first | omega | exact Nat.le_refl _⟩, BK381, ⟨Xi⟩⟩
     case rest =>
      clear HC11
      (try clear c1); (try clear c3); (try clear c3b0); (try clear c3b1); (try clear c3b2); (try clear c4); (try clear c4b0); (try clear c4b1); (try clear hcz7_0); (try clear hcz7_1); (try clear hfz7_0); (try clear hfz7_1); (try clear hx380_0); (try clear hx380_1); (try clear p380); (try clear q380)
      obtain ⟨kq, x6_10, rfl, HA, HJ10, BK381, HB⟩ := hcut
      cases kq with
      | zero => cases HA.out
      | succ kj10 =>
       have H := HA.out
       clear HA
       simp only [impl_matches.j1] at H
       have HC13 := Aside0.mk H
       clear H
       go_upto_region 7 with (fail)
       go_cut [35] (fun v35 wc => ∃ (kq : Nat) (x35_12 : Bool), v35 = .bool x35_12 ∧ Aside0 (impl_matches.j2 kq l0 l1 x6_10 (l1.length : Int) x35_12 ((rd_T135 l0 0).f0) ((rd_T135 l0 0).f1) = some r) ∧ Aside0 (kq ≤ kj10) ∧ Aside0 (wc.heap[gb381]? = some (.cells #[(.slice A380_0 ((rd_T135 l0 0).f0).length c380_0), .int .i64 ((rd_T135 l0 0).f1)] 135 (0, 0))) ∧ Aside0 (Below w.heap.size w wc))
       case first =>
        have H := HC13.out
        clear HC13
        obtain ⟨c14, H⟩ | ⟨c14, H⟩ := Xiu H
        ·have c14b0 : (((rd_T135 l0 0).f1) == 0) = true := beq_iff_eq.mpr c14
         have c14b1 : (((rd_T135 l0 0).f1) != 0) = false := bne_eq_false_iff_eq.mpr c14
         clear c14
         (first | rw [c14b0] | (simp only [i64_w, i32_w]; rw [c14b0]) | skip)
         have H' := Aside0.mk H
         clear H
         obtain ⟨hcz15_0, hcz15_1⟩ := Xc2 BK381
         obtain ⟨hfz15_0, hfz15_1⟩ := Xf2 BK381
         go_wp2
         go_meet
         case rel => exact ⟨_, (true), Xr, H', ⟨by have := HJ4.out; have := HJ10.out; first | omega | exact Nat.le_refl _⟩, BK381, ⟨Xi⟩⟩
        ·have c14b0 : (((rd_T135 l0 0).f1) == 0) = false := beq_eq_false_iff_ne.mpr c14
         have c14b1 : (((rd_T135 l0 0).f1) != 0) = true := bne_iff_ne.mpr c14
         (first | rw [c14b0] | (simp only [i64_w, i32_w]; rw [c14b0]) | skip)
         have H' := Aside0.mk H
         clear H
         obtain ⟨hcz16_0, hcz16_1⟩ := Xc2 BK381
         obtain ⟨hfz16_0, hfz16_1⟩ := Xf2 BK381
         go_wp2
         go_meet
         case rel => exact ⟨_, ((((rd_T135 l0 0).f1) == 1)), Xr, H', ⟨by have := HJ4.out; have := HJ10.out; first | omega | exact Nat.le_refl _⟩, BK381, ⟨Xi⟩⟩
       case rest =>
        clear HC13
        (try clear c1); (try clear c3); (try clear c3b0); (try clear c3b1); (try clear c3b2); (try clear c4); (try clear c4b0); (try clear c4b1); (try clear hcz7_0); (try clear hcz7_1); (try clear hfz7_0); (try clear hfz7_1); (try clear hx380_0); (try clear hx380_1); (try clear p380); (try clear q380)
        obtain ⟨kq, x35_12, rfl, HA, HJ12, BK381, HB⟩ := hcut
        cases kq with
        | zero => cases HA.out
        | succ kj12 =>
         have H := HA.out
         clear HA
         simp only [impl_matches.j2] at H
         have HC17 := Aside0.mk H
         clear H
         go_upto_if 35 with (fail)
         go_cut [7] (fun v7 wc => ∃ (kq : Nat) (x7_16 : Int), v7 = .int .i64 x7_16 ∧ Aside0 (impl_matches.j3 kq l0 l1 x6_10 x7_16 ((rd_T135 l0 0).f0) ((rd_T135 l0 0).f1) = some r) ∧ Aside0 (kq ≤ kj12) ∧ Aside0 (wc.heap[gb381]? = some (.cells #[(.slice A380_0 ((rd_T135 l0 0).f0).length c380_0), .int .i64 ((rd_T135 l0 0).f1)] 135 (0, 0))) ∧ Aside0 (Below w.heap.size w wc))
         case first =>
          have H := HC17.out
          clear HC17
          by_cases c18 : x35_12 = true
          ·subst c18
           (first | rw [if_pos rfl] at H | skip)
           obtain ⟨ji19, hji19⟩ : ∃ j_ : Int, (mn (l1.length : Int) 1) = j_ := ⟨_, rfl⟩
           replace H : (impl_matches.j3 kj12 l0 l1 x6_10 ji19 ((rd_T135 l0 0).f0) ((rd_T135 l0 0).f1)) = some r := by first | (rw [hji19] at H; exact H) | (simp only [hji19] at H ⊢; exact H)
           (try (have hji19h : ji19 ≤ 1 := by (rw [← hji19]; unfold mn; (repeat' split) <;> omega)))
           (try (have hji19g : ji19 ≤ 64 := by omega))
           (try (have hji19l : 0 ≤ ji19 := by (rw [← hji19]; unfold mn; (repeat' split) <;> omega)))
           (try (have hji19m : 0 ≤ ji19 := by omega))
           have hji19_ : (if 1 < (l1.length : Int) then 1 else (l1.length : Int)) = ji19 := hji19
           have H' := Aside0.mk H
           clear H
           go_wp2
           go_meet
           case rel => exact ⟨_, (ji19), (by first | rfl | (simp; done) | (simp only [← hji19] <;> (first | rfl | simp)) | (simp [*]; done)), H', ⟨by have := HJ4.out; have := HJ10.out; have := HJ12.out; first | omega | exact Nat.le_refl _⟩, BK381, ⟨Xi⟩⟩
          ·replace c18 := Bool.eq_false_iff.mpr c18
           subst c18
           (first | rw [if_neg (show ¬ (false = true) by decide)] at H | skip)
           have H' := Aside0.mk H
           clear H
           go_wp2
           go_meet
           case rel => exact ⟨_, ((l1.length : Int)), Xr, H', ⟨by have := HJ4.out; have := HJ10.out; have := HJ12.out; first | omega | exact Nat.le_refl _⟩, BK381, ⟨Xi⟩⟩
         case rest =>
          clear HC17
          (try clear c1); (try clear c3); (try clear c3b0); (try clear c3b1); (try clear c3b2); (try clear c4); (try clear c4b0); (try clear c4b1); (try clear hcz7_0); (try clear hcz7_1); (try clear hfz7_0); (try clear hfz7_1); (try clear hx380_0); (try clear hx380_1); (try clear p380); (try clear q380)
          obtain ⟨kq, x7_16, rfl, HA, HJ16, BK381, HB⟩ := hcut
          cases kq with
          | zero => cases HA.out
          | succ kj16 =>
           have H := HA.out
           clear HA
           simp only [impl_matches.j3] at H
           have H' := Aside0.mk H
           clear H
           go_wp2
           go_loopg [8] kj16 (fun kq v8 w' => ∃ (x8_5 : Int), v8 = .int .i64 x8_5 ∧ Aside0 (impl_matches.l0 kq l0 l1 x6_10 x7_16 x8_5 ((rd_T135 l0 0).f0) ((rd_T135 l0 0).f1) = some r) ∧ Aside0 (kq ≤ kj16) ∧ Aside0 (w'.heap[gb381]? = some (.cells #[(.slice A380_0 ((rd_T135 l0 0).f0).length c380_0), .int .i64 ((rd_T135 l0 0).f1)] 135 (0, 0))) ∧ Aside0 (Below w.heap.size w w'))
           case atStart => exact ⟨(0), Xr, H', Xkr, BK381, ⟨Xi⟩⟩
           case round =>
            clear H'
            (try clear c1); (try clear c3); (try clear c3b0); (try clear c3b1); (try clear c3b2); (try clear c4); (try clear c4b0); (try clear c4b1); (try clear hcz7_0); (try clear hcz7_1); (try clear hfz7_0); (try clear hfz7_1); (try clear hx380_0); (try clear hx380_1); (try clear p380); (try clear q380)
            obtain ⟨x8_5, rfl, HA, HK5, BK381, HB⟩ := hrel
            cases gk with
            | zero => cases HA.out
            | succ k5 =>
             have H := HA.out
             clear HA
             simp only [impl_matches.l0] at H
             obtain ⟨c20b0, H⟩ | ⟨c20b0, H⟩ := Xit H
             ·have HC21 := Aside0.mk H
              clear H
              go_upto_region 12 with (fail)
              go_cut [55] (fun v55 wc => ∃ (kq : Nat) (x55_20 : Bool), v55 = .bool x55_20 ∧ Aside0 (impl_matches.j5 kq l0 l1 x6_10 x7_16 x8_5 x55_20 ((rd_T135 l0 0).f0) ((rd_T135 l0 0).f1) = some r) ∧ Aside0 (kq ≤ k5) ∧ Aside0 (wc.heap[gb381]? = some (.cells #[(.slice A380_0 ((rd_T135 l0 0).f0).length c380_0), .int .i64 ((rd_T135 l0 0).f1)] 135 (0, 0))) ∧ Aside0 (Below w.heap.size w wc))
              case first =>
               have H := HC21.out
               clear HC21
               obtain ⟨c22, H⟩ | ⟨c22, H⟩ := Xiu H
               ·have c22b0 : decide (0 < x8_5) = true := decide_eq_true c22
                clear c22
                (first | rw [c22b0] | (simp only [i64_w, i32_w]; rw [c22b0]) | skip)
                obtain ⟨ji23, hji23⟩ : ∃ j_ : Int, (wrap64 (x8_5 - 1)) = j_ := ⟨_, rfl⟩
                replace H : (if 0 ≤ (ji23) then (if (ji23) < (l1.length : Int) then ((slices_Contains_int_int.f k5 ((rd_T135 l0 0).f0) (rd l1 (ji23))).bind fun t383 => (impl_matches.j5 k5 l0 l1 x6_10 x7_16 x8_5 (!t383) ((rd_T135 l0 0).f0) ((rd_T135 l0 0).f1))) else (none)) else (none)) = some r := by first | (rw [hji23] at H; exact H) | (simp only [hji23] at H ⊢; exact H)
                have hji23w : (IntKind.i64.wrap (x8_5 - 1)) = ji23 := (i64_w _).trans hji23
                obtain ⟨c24b0, H⟩ := Xid H
                obtain ⟨c25b0, H⟩ := Xid H
                obtain ⟨t383, A26, H⟩ := Xbi H
                (try dsimp only at H)
                have H' := Aside0.mk H
                clear H
                try go_wp2_with (fail)
                replace BK381 := Aside0.mk (blk_drew BK381.out)
                replace HB := Aside0.mk (below_drew1 HB.out)
                have p382 : 0 ≤ ((ji23) : Int) := of_decide_eq_true Xa
                have q382 : (ji23) < (l1.length : Int) := of_decide_eq_true Xa
                obtain ⟨ad382, e382, hx382_0⟩ := Kd.at_int HR1.out (ji23) p382 q382
                have hw382_0 := hx382_0
                cases e382
                replace hx382_0 := Xm HB hx382_0
                replace p382 := eq_true p382
                replace q382 := eq_true q382
                refine start_ (n := 13) (S := fun w' => w'.cell? ⟨gb381, 0, none⟩ = some (.slice A380_0 ((rd_T135 l0 0).f0).length c380_0) ∧ w'.cell? ⟨gb381, 1, none⟩ = some (.int .i64 ((rd_T135 l0 0).f1)) ∧ w'.cell? (ad382.add ((ji23)).toNat) = some (.int .i64 (rd l1 (ji23)))) (ds := []) #[false, false, false, false, false, false, false, false, false, false, false, false, false] (by kernel_rfl) rfl rfl ⟨(blk_cell BK381.out 0).trans rfl, (blk_cell BK381.out 1).trans rfl, Xn hw382_0⟩ (fun hHeld => ?_); refine with_tabW impl_matches.tab12 impl_matches.bits12 (fun HT_ HW_ => ?_)
                generalize wr.drew = w27 at BK381 HB hx382_0 hHeld ⊢
                refine Xpu 0 43 (XW.bs 13 1) HT_.out ?_
                refine Xpu 1 44 (XW.bs 13 3) HT_.out ?_
                refine Xpu 2 45 (XW.bs 13 7) HT_.out ?_
                refine Xpu 3 46 (XW.bs 13 15) HT_.out ?_
                refine Xpu 5 48 (XW.bs 13 47) HT_.out ?_
                refine Xpu 6 49 (XW.bs 13 111) HT_.out ?_
                refine Xpu 7 50 (XW.bs 13 239) HT_.out ?_
                refine Xpu 8 51 (XW.bs 13 495) HT_.out ?_
                refine Xta 4 47 (XW.bs 13 511) HT_.out HW_.out hHeld ?_
                refine Xta 9 52 (XW.bs 13 1023) HT_.out HW_.out hHeld ?_
                refine one_ (i := 10) (N := some 53) (XW.bs 13 2047) rfl rfl (one_of HT_.out (by kernel_rfl)) (by decide) (fun K hK => ?_)
                refine goes_ Try.func103 (by kernel_rfl) rfl #[.slice A380_0 ((rd_T135 l0 0).f0).length c380_0, .int .i64 (rd l1 (ji23))] (by rfl) rfl rfl (by (try simp only [List.map_toArray, List.map_cons, List.map_nil]); first | done | (simp only [hji23]; rfl) | rfl | (simp only [List.length_drop, List.length_take]; rfl)) ?_
                with_reducible refine (slices_Contains_int_int.calls k5 _ _ ((rd_T135 l0 0).f0) (rd l1 (ji23)) t383 _ ?side1 ?side2 A26.out).mono ?_
                (case side1 => exact Xc HR380_0)
                (case side2 => exact HC380_0.out)
                rintro e w' ⟨rfl, ⟨nd, rfl⟩⟩
                refine ⟨_, rfl, ?_⟩
                refine hK.out _ _ ⟨(blk_cell BK381.out 0).trans rfl, (blk_cell BK381.out 1).trans rfl, Xn hw382_0⟩ (fun hHeld => ?_)
                clear hK K
                refine Xno ?_
                refine Xpu 11 54 (XW.bs 13 4095) HT_.out ?_
                refine Xpu 12 55 (XW.bs 13 8191) HT_.out ?_
                refine done_ (done_of HT_.out (by kernel_rfl)) ?_
                try go_wp2_with (fail)
                go_meet
                case rel => exact ⟨_, (!t383), Xr, H', ⟨by have := HJ4.out; have := HJ10.out; have := HJ12.out; have := HJ16.out; have := HK5.out; first | omega | exact Nat.le_refl _⟩, BK381, ⟨Xi⟩⟩
               ·have c22b0 : decide (0 < x8_5) = false := decide_eq_false c22
                clear c22
                (first | rw [c22b0] | (simp only [i64_w, i32_w]; rw [c22b0]) | skip)
                have H' := Aside0.mk H
                clear H
                try go_wp2_with (fail)
                replace BK381 := Aside0.mk (blk_drew BK381.out)
                replace HB := Aside0.mk (below_drew1 HB.out)
                refine start_ (n := 13) (S := fun w' => True) (ds := []) #[false, false, false, false, false, false, false, false, false, false, false, false, false] (by kernel_rfl) rfl rfl trivial (fun hHeld => ?_); refine with_tabW impl_matches.tab12 impl_matches.bits12 (fun HT_ HW_ => ?_)
                generalize wr.drew = w28 at BK381 HB hHeld ⊢
                refine Xpu 0 43 (XW.bs 13 1) HT_.out ?_
                refine Xpu 1 44 (XW.bs 13 3) HT_.out ?_
                refine Xpu 2 45 (XW.bs 13 7) HT_.out ?_
                refine Xpn 3 46 (XW.bs 13 15) HT_.out ?_
                refine Xpn 4 47 (XW.bs 13 31) HT_.out ?_
                refine Xpn 5 48 (XW.bs 13 63) HT_.out ?_
                refine Xpn 6 49 (XW.bs 13 127) HT_.out ?_
                refine Xpn 7 50 (XW.bs 13 255) HT_.out ?_
                refine Xpn 8 51 (XW.bs 13 511) HT_.out ?_
                refine Xpn 9 52 (XW.bs 13 1023) HT_.out ?_
                refine Xpn 10 53 (XW.bs 13 2047) HT_.out ?_
                refine Xpn 11 54 (XW.bs 13 4095) HT_.out ?_
                refine Xpu 12 55 (XW.bs 13 8191) HT_.out ?_
                refine done_ (done_of HT_.out (by kernel_rfl)) ?_
                try go_wp2_with (fail)
                go_meet
                case rel => exact ⟨_, (false), Xr, H', ⟨by have := HJ4.out; have := HJ10.out; have := HJ12.out; have := HJ16.out; have := HK5.out; first | omega | exact Nat.le_refl _⟩, BK381, ⟨Xi⟩⟩
              case rest =>
               clear HC21
               (try clear c1); (try clear c3); (try clear c3b0); (try clear c3b1); (try clear c3b2); (try clear c4); (try clear c4b0); (try clear c4b1); (try clear c20); (try clear c20b0); (try clear hcz7_0); (try clear hcz7_1); (try clear hfz7_0); (try clear hfz7_1); (try clear hx380_0); (try clear hx380_1); (try clear p380); (try clear q380)
               obtain ⟨kq, x55_20, rfl, HA, HJ20, BK381, HB⟩ := hcut
               cases kq with
               | zero => cases HA.out
               | succ kj20 =>
                have H := HA.out
                clear HA
                simp only [impl_matches.j5] at H
                by_cases c29 : x55_20 = true
                ·subst c29
                 (first | rw [if_pos rfl] at H | skip)
                 obtain rfl := Option.some.inj H
                 go_wp2
                 go_ret
                 exact ⟨Xe, Xi⟩
                ·replace c29 := Bool.eq_false_iff.mpr c29
                 subst c29
                 (first | rw [if_neg (show ¬ (false = true) by decide)] at H | skip)
                 obtain ⟨c30, H⟩ | ⟨c30, H⟩ := Xiu H
                 ·have c30b0 : decide (x6_10 ≤ x8_5) = true := decide_eq_true c30
                  clear c30
                  obtain ⟨c31, H⟩ := Xif H
                  have c31b0 := eq_true c31
                  have c31b1 : decide (1 ≤ (l0.length : Int)) = true := decide_eq_true c31
                  clear c31
                  obtain ⟨y384, hy384⟩ : ∃ y_ : List (S135), y_ = (l0.drop 1) := ⟨_, rfl⟩
                  replace H : (if 0 ≤ x8_5 then (if x8_5 ≤ (l1.length : Int) then ((impl_matches.f kj20 y384 (l1.drop (x8_5 : Int).toNat)).bind fun t389 => (if t389 = true then (some true) else (impl_matches.l0 kj20 l0 l1 x6_10 x7_16 (wrap64 (x8_5 + 1)) ((rd_T135 l0 0).f0) ((rd_T135 l0 0).f1)))) else (none)) else (none)) = some r := by first | (rw [hy384]; with_reducible exact H) | (have H2_ := (Option.bind_some _ _).symm.trans H; rw [hy384]; with_reducible exact H2_) | (have H2_ := (Option.bind_some _ _).symm.trans H; with_reducible exact H2_) | with_reducible exact H | (rw [hy384]; exact H) | exact H
                  have Ny384 := Aside0.mk hy384
                  clear hy384
                  obtain ⟨c32, H⟩ := Xif H
                  have c32b0 := eq_true c32
                  have c32b1 : decide (0 ≤ x8_5) = true := decide_eq_true c32
                  clear c32
                  obtain ⟨c33, H⟩ := Xif H
                  have c33b0 := eq_true c33
                  have c33b1 : decide (x8_5 ≤ (l1.length : Int)) = true := decide_eq_true c33
                  clear c33
                  obtain ⟨t389, A34, H⟩ := Xbi H
                  (try dsimp only at H)
                  have HC35 := Aside0.mk H
                  clear H
                  try go_wp2_with (fail)
                  replace BK381 := Aside0.mk (blk_drew BK381.out)
                  replace HB := Aside0.mk (below_drew1 HB.out)
                  have q37 : (1 : Int) ≤ ((l0.length : Int) : Int) := of_decide_eq_true Xa
                  obtain ⟨i037, hi037, _, hsz37, _⟩ := info_parts info135
                  have hroom37 : l0.length ≤ c0 := HC0.out
                  have hC37 : Kd.C k135 _ (some ad380) l0.length l0 := HR0.out
                  have hcut37 := cut_from (P := Try.prog) 93 135 .i64 Try.underlying93 hi037 2 hsz37 (some ad380) l0.length c0 1 (by omega) q37
                  have hr37 := Kd.C_drop (m := (1 : Int).toNat) (c := c0) hC37 (by omega) hroom37
                  obtain ⟨A37, hA37⟩ : ∃ A1, A1 = (if c0 = (1 : Int).toNat then (some ad380) else ((some ad380) : Option Addr).map (·.add ((1 : Int).toNat * 2))) := ⟨_, rfl⟩
                  obtain ⟨c37, hc37⟩ : ∃ c1, c1 = c0 - (1 : Int).toNat := ⟨_, rfl⟩
                  have hy37 : y384.length = l0.length - (1 : Int).toNat := (by rw [Ny384.out, List.length_drop] <;> omega)
                  rw [show (l0).drop (1 : Int).toNat = y384 from Ny384.out.symm] at hr37
                  replace hr37 : Kd.C k135 _ A37 y384.length y384 := (by rw [hA37]; exact hr37)
                  rw [← hy37, ← hA37, ← hc37] at hcut37
                  have HR387 := Aside0.mk hr37
                  have HC387 := Aside0.mk (show y384.length ≤ c37 from by rw [hy37, hc37]; exact Nat.sub_le_sub_right hroom37 _)
                  clear hr37 hC37 hroom37 hi037 hsz37 hc37
                  have KY37 := Aside0.mk hy37
                  have KA37 := Aside0.mk hA37
                  clear hy37 hA37
                  replace q37 := eq_true q37
                  obtain ⟨i038, hi038, _, hsz38, _⟩ := info_parts info3
                  obtain ⟨A38, hcut38, hA38, hC38⟩ := print_drop_of (P := Try.prog) (Value.int .i64) 0 37 3 .i64 Try.underlying37 hi038 hsz38 A1 c1 l1 x8_5 (of_decide_eq_true Xa) (of_decide_eq_true Xa) HC1.out
                  have HR388 := Aside0.mk (Kd.C_of_reads (h1 := fun _ => rfl) (hA38 _ (Kd.reads_of_C HR1.out)))
                  have HC388 := Aside0.mk hC38
                  clear hA38 hC38 hi038 hsz38
                  refine start_ (n := 11) (S := fun w' => True) (ds := []) #[false, false, false, false, false, false, false, false, false, false, false] (by kernel_rfl) rfl rfl trivial (fun hHeld => ?_); refine with_tabW impl_matches.tab13 impl_matches.bits13 (fun HT_ HW_ => ?_)
                  generalize wc.drew = w36 at BK381 HB HR387 HR388 hHeld ⊢
                  refine Xpu 0 56 (XW.bs 11 1) HT_.out ?_
                  refine Xpu 1 57 (XW.bs 11 3) HT_.out ?_
                  refine Xpu 2 58 (XW.bs 11 7) HT_.out ?_
                  refine Xpu 3 59 (XW.bs 11 15) HT_.out ?_
                  refine Xpu 4 60 (XW.bs 11 31) HT_.out ?_
                  refine Xpu 5 61 (XW.bs 11 63) HT_.out ?_
                  refine Xpu 6 62 (XW.bs 11 127) HT_.out ?_
                  refine Xpu 7 63 (XW.bs 11 255) HT_.out ?_
                  refine Xpu 8 64 (XW.bs 11 511) HT_.out ?_
                  refine one_ (i := 9) (N := some 65) (XW.bs 11 1023) rfl rfl (one_of HT_.out (by kernel_rfl)) (by decide) (fun K hK => ?_)
                  refine goes_ Try.func117 (by kernel_rfl) rfl #[.slice A37 y384.length c37, .slice A38 (l1.drop (x8_5 : Int).toNat).length (c1 - x8_5.toNat)] (by rfl) rfl rfl (by (try simp only [List.map_toArray, List.map_cons, List.map_nil]); first | done | (rw [show (l1.drop (x8_5 : Int).toNat).length = (l1.length - x8_5.toNat) from List.length_drop] <;> rfl) | rfl | (simp only [List.length_drop, List.length_take]; rfl)) ?_
                  with_reducible refine (ih kj20 (by have := HJ4.out; have := HJ10.out; have := HJ12.out; have := HJ16.out; have := HK5.out; have := HJ20.out; omega) _ _ y384 _ _ (l1.drop (x8_5 : Int).toNat) t389 _ ?side1 ?side2 ?side3 ?side4 A34.out).mono ?_
                  (case side1 => exact Xc HR387)
                  (case side2 => exact HC387.out)
                  (case side3 => exact Xc HR388)
                  (case side4 => exact HC388.out)
                  rintro e w39 ⟨rfl, hb⟩
                  refine ⟨_, rfl, ?_⟩
                  replace BK381 := Xbb BK381 hb
                  replace HB := Aside0.mk (below_step Xi hb)
                  (try clear hb)
                  (try clear hb2)
                  (try clear hk)
                  (try clear hi)
                  refine hK.out _ _ trivial (fun hHeld => ?_)
                  clear hK K
                  refine Xno ?_
                  refine Xpu 10 66 (XW.bs 11 2047) HT_.out ?_
                  refine done_ (done_of HT_.out (by kernel_rfl)) ?_
                  go_upto_if 66 with (fail)
                  have H := HC35.out
                  clear HC35
                  by_cases c40 : t389 = true
                  ·subst c40
                   (first | rw [if_pos rfl] at H | skip)
                   obtain rfl := Option.some.inj H
                   go_wp2
                   go_ret
                   exact ⟨Xe, Xi⟩
                  ·replace c40 := Bool.eq_false_iff.mpr c40
                   subst c40
                   (first | rw [if_neg (show ¬ (false = true) by decide)] at H | skip)
                   have H' := Aside0.mk H
                   clear H
                   go_wp2
                   go_roundg kj20
                   case measure => have := HJ4.out; have := HJ10.out; have := HJ12.out; have := HJ16.out; have := HK5.out; have := HJ20.out; omega
                   case rel => exact ⟨(wrap64 (x8_5 + 1)), Xr, H', ⟨by have := HJ4.out; have := HJ10.out; have := HJ12.out; have := HJ16.out; have := HK5.out; have := HJ20.out; omega⟩, BK381, ⟨Xi⟩⟩
                 ·have c30b0 : decide (x6_10 ≤ x8_5) = false := decide_eq_false c30
                  clear c30
                  have H' := Aside0.mk H
                  clear H
                  try go_wp2_with (fail)
                  replace BK381 := Aside0.mk (blk_drew BK381.out)
                  replace HB := Aside0.mk (below_drew1 HB.out)
                  refine start_ (n := 11) (S := fun w' => True) (ds := []) #[false, false, false, false, false, false, false, false, false, false, false] (by kernel_rfl) rfl rfl trivial (fun hHeld => ?_); refine with_tabW impl_matches.tab13 impl_matches.bits13 (fun HT_ HW_ => ?_)
                  generalize wc.drew = w41 at BK381 HB hHeld ⊢
                  refine Xpu 0 56 (XW.bs 11 1) HT_.out ?_
                  refine Xpu 1 57 (XW.bs 11 3) HT_.out ?_
                  refine Xpu 2 58 (XW.bs 11 7) HT_.out ?_
                  refine Xpu 3 59 (XW.bs 11 15) HT_.out ?_
                  refine Xpn 4 60 (XW.bs 11 31) HT_.out ?_
                  refine Xpn 5 61 (XW.bs 11 63) HT_.out ?_
                  refine Xpn 6 62 (XW.bs 11 127) HT_.out ?_
                  refine Xpn 7 63 (XW.bs 11 255) HT_.out ?_
                  refine Xpn 8 64 (XW.bs 11 511) HT_.out ?_
                  refine Xpn 9 65 (XW.bs 11 1023) HT_.out ?_
                  refine Xpu 10 66 (XW.bs 11 2047) HT_.out ?_
                  refine done_ (done_of HT_.out (by kernel_rfl)) ?_
                  try go_wp2_with (fail)
                  go_roundg kj20
                  case measure => have := HJ4.out; have := HJ10.out; have := HJ12.out; have := HJ16.out; have := HK5.out; have := HJ20.out; omega
                  case rel => exact ⟨(wrap64 (x8_5 + 1)), Xr, H', ⟨by have := HJ4.out; have := HJ10.out; have := HJ12.out; have := HJ16.out; have := HK5.out; have := HJ20.out; omega⟩, BK381, ⟨Xi⟩⟩
             ·obtain rfl := Option.some.inj H
              go_wp2
              go_ret
              exact ⟨Xe, Xi⟩
  ·exact absurd H (by simp)

end Go.Proofs.Ytpdhccdmbdbdpaa.XA
