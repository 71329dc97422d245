/- Contracts of the program's functions: each Go function that is named below comes to what its Lean function says. Written by xprint.py (a program of this session's, over the kit's print). Conditions: each contract's own premises. -/
import Derived.Test.YtpdhccdmbdbdpaaYCheckNode0
import Derived.Test.YtpdhccdmbdbdpaaYCheckNode4
import Derived.Test.YtpdhccdmbdbdpaaYCheckNode8
namespace Go.Proofs.Ytpdhccdmbdbdpaa.XA
open Go.RowKit Go.Proofs.YtpdhccdmbdbdpaaW.PrintWords Go.Proofs.YtpdhccdmbdbdpaaW.PrintLast Go.Proofs.YtpdhccdmbdbdpaaW.PrintMore XW
attribute [local go_sem] max2_int min2_int max_two min_two max_three min_three max_four min_four   -- for this text's walks alone
set_option linter.unusedVariables false
set_option linter.unusedSimpArgs false

/-! ### spec_l03Match: function 92 -/
mutual
def spec_l03Match.j0 : Nat → List (S135) → List Int → Int → Int → List Int → Int → Option (Bool)
 | 0, _, _, _, _, _, _ => none
 | k + 1, x0, x1, x6, x7, x234000, x234001 => spec_l03Match.l0 k x0 x1 x6 x7 0 x234000 x234001
def spec_l03Match.l0 : Nat → List (S135) → List Int → Int → Int → Int → List Int → Int → Option (Bool)
 | 0, _, _, _, _, _, _, _ => none
 | k + 1, x0, x1, x6, x7, x8, x234000, x234001 => if x8 ≤ x7 then (if x8 ≥ x6 then (if 1 ≤ (x0.length : Int) then (if 0 ≤ x8 then (if x8 ≤ (x1.length : Int) then ((spec_l03Match.f k (x0.drop 1) (x1.drop (x8 : Int).toNat)).bind fun t240 => (spec_l03Match.j2 k x0 x1 x6 x7 x8 t240 x234000 x234001)) else (none)) else (none)) else (none)) else (spec_l03Match.j2 k x0 x1 x6 x7 x8 false x234000 x234001)) else (some false)
def spec_l03Match.j2 : Nat → List (S135) → List Int → Int → Int → Int → Bool → List Int → Int → Option (Bool)
 | 0, _, _, _, _, _, _, _, _ => none
 | k + 1, x0, x1, x6, x7, x8, x43, x234000, x234001 => if x43 = true then (some true) else (if x8 < x7 then (if 0 ≤ x8 then (if x8 < (x1.length : Int) then ((spec_l02Has.f k x234000 (rd x1 x8)).bind fun t242 => (if t242 = true then (spec_l03Match.l0 k x0 x1 x6 x7 (wrap64 (x8 + 1)) x234000 x234001) else (some false))) else (none)) else (none)) else (spec_l03Match.l0 k x0 x1 x6 x7 (wrap64 (x8 + 1)) x234000 x234001))
def spec_l03Match.f : Nat → List (S135) → List Int → Option (Bool)
 | 0, _, _ => none
 | k + 1, l0, l1 => if (l0.length : Int) = 0 then (some ((l1.length : Int) == 0)) else (if 0 < (l0.length : Int) then ((spec_l03Least.f ((rd_T135 l0 0).f1)).bind fun t234 => (if ((rd_T135 l0 0).f1) < 2 then (spec_l03Match.j0 k l0 l1 t234 (mn (l1.length : Int) 1) ((rd_T135 l0 0).f0) ((rd_T135 l0 0).f1)) else (spec_l03Match.j0 k l0 l1 t234 (l1.length : Int) ((rd_T135 l0 0).f0) ((rd_T135 l0 0).f1)))) else (none))
end
def spec_l03Match.T11 : Bool × List (List Nat × List Nat) := (true, [([], []), ([], []), ([0, 1], [0, 1]), ([2], [2]), ([3], [3]), ([4, 3], [3, 4]), ([3], [3]), ([3], [3]), ([6, 7, 3], [3, 6, 7]), ([5, 8, 3, 3], [3, 5, 8]), ([3, 9], [3, 9])])
def spec_l03Match.B11 : List Nat := [0, 0, 3, 7, 15, 31, 15, 15, 207, 511, 1023]
theorem spec_l03Match.tab11 : rtab .any (opsOf Try.f92 11) = spec_l03Match.T11 := by kernel_rfl
theorem spec_l03Match.bits11 : waitsOk spec_l03Match.T11.2 spec_l03Match.B11 = true := by kernel_rfl
def spec_l03Match.T13 : Bool × List (List Nat × List Nat) := (true, [([], []), ([], []), ([0, 1], [0, 1]), ([2], [2]), ([3], [3]), ([4, 3], [3, 4]), ([3], [3]), ([3], [3]), ([6, 7, 3], [3, 6, 7]), ([8, 3], [3, 8]), ([5, 9, 3, 3], [3, 5, 9]), ([10, 3], [3, 10]), ([3, 11], [3, 11])])
def spec_l03Match.B13 : List Nat := [0, 0, 3, 7, 15, 31, 15, 15, 207, 463, 1023, 2047, 4095]
theorem spec_l03Match.tab13 : rtab .any (opsOf Try.f92 13) = spec_l03Match.T13 := by kernel_rfl
theorem spec_l03Match.bits13 : waitsOk spec_l03Match.T13.2 spec_l03Match.B13 = true := by kernel_rfl
set_option maxHeartbeats 8000000 in
set_option maxRecDepth 100000 in
theorem spec_l03Match.calls (k : Nat) : ∀ (A0 : Option Addr) (c0 : Nat) (l0 : List (S135)) (A1 : Option Addr) (c1 : Nat) (l1 : List Int) (r : Bool) (w : World) (hr0 : Kd.C k135 w A0 l0.length l0) (hc0 : l0.length ≤ c0) (hr1 : Kd.C (Kd.int .i64) w A1 l1.length l1) (hc1 : l1.length ≤ c1) (h : spec_l03Match.f k l0 l1 = some r),
  Calls Try.prog 92 #[.slice A0 l0.length c0, .slice A1 l1.length c1] w fun e w' => e = .returned (.bool r) ∧ Below w.heap.size w w' := by
 induction k using Nat.strongRecOn with
 | _ k ih =>
 intro A0 c0 l0 A1 c1 l1 r w hr0 hc0 hr1 hc1 h
 cases k with
 | zero => exact absurd h (by simp [spec_l03Match.f])
 | succ k =>
 simp only [spec_l03Match.f] at h
 have hu135 := Try.underlying135
 have HR0 := Aside0.mk hr0
 have HC0 := Aside0.mk hc0
 clear hr0 hc0
 have HR1 := Aside0.mk hr1
 have HC1 := Aside0.mk hc1
 clear hr1 hc1
 have HB := Aside0.mk (Below.refl w.heap.size w)
 have H : (if (l0.length : Int) = 0 then (some ((l1.length : Int) == 0)) else (if 0 < (l0.length : Int) then ((spec_l03Least.f ((rd_T135 l0 0).f1)).bind fun t234 => (if ((rd_T135 l0 0).f1) < 2 then (spec_l03Match.j0 k l0 l1 t234 (mn (l1.length : Int) 1) ((rd_T135 l0 0).f0) ((rd_T135 l0 0).f1)) else (spec_l03Match.j0 k l0 l1 t234 (l1.length : Int) ((rd_T135 l0 0).f0) ((rd_T135 l0 0).f1)))) else (none))) = some r := h
 clear h
 obtain ⟨c3, H⟩ | ⟨c3, H⟩ := Xiu H
 ·have c3b0 : ((l0.length : Int) == 0) = true := beq_iff_eq.mpr c3
  have c3b1 : ((l0.length : Int) != 0) = false := bne_eq_false_iff_eq.mpr c3
  clear c3
  obtain rfl := Option.some.inj H
  go_enter Try.func92, Try.ntmps92
  go_wp2
  go_ret
  exact ⟨Xe, Xi⟩
 ·have c3b0 : ((l0.length : Int) == 0) = false := beq_eq_false_iff_ne.mpr c3
  have c3b1 : ((l0.length : Int) != 0) = true := bne_iff_ne.mpr c3
  have c3b2 : ¬ (l0 = []) := fun h_ => c3 (by rw [h_]; rfl)
  obtain ⟨c4, H⟩ | ⟨c4, H⟩ := Xiu H
  ·have c4b0 : decide (0 < (l0.length : Int)) = true := decide_eq_true c4
   have c4b1 : decide (0 < l0.length) = true := decide_eq_true (by omega)
   clear c4
   obtain ⟨t234, A5, H⟩ := Xbi H
   (try dsimp only at H)
   have HC6 := Aside0.mk H
   clear H
   have p232 : 0 ≤ (0 : Int) := (by omega)
   have q232 : 0 < (l0.length : Int) := of_decide_eq_true Xa
   obtain ⟨ad232, A232_0, c232_0, e232, hx232_0, hx232_1, hl232_0, hi232_0⟩ := at_T135 HR0.out 0 p232 q232
   cases e232
   have qi232 : (0 < l0.length) = True := eq_true (by omega)
   (try rw [show ((0 : Int)).toNat = 0 from rfl] at hx232_0)
   (try rw [show 0 * 2 = 0 from rfl] at hx232_0)
   (try rw [Addr.add_zero'] at hx232_0)
   (try rw [show ((0 : Int)).toNat = 0 from rfl] at hx232_1)
   (try rw [show 0 * 2 = 0 from rfl] at hx232_1)
   (try rw [Addr.add_zero'] at hx232_1)
   have HR232_0 := Aside0.mk hi232_0
   have HC232_0 := Aside0.mk hl232_0
   clear hi232_0 hl232_0
   replace p232 := eq_true p232
   replace q232 := eq_true q232
   go_enter Try.func92, Try.ntmps92
   go_upto_if 25 with (first | ((with_reducible refine gate_dst (N := 5) rfl ?_); refine Xbox 5 #[.slice none 0 0, .int .i64 0] 135 ?_; intro gb233 hg w7 hbox hb; have BK233 := Aside0.mk (hbox); have GE233 := Xge hg Xi; replace HB := Aside0.mk (below_step Xi hb); clear hb hbox hg; obtain ⟨hcz8_0, hcz8_1⟩ := Xc2 BK233; obtain ⟨hfz8_0, hfz8_1⟩ := Xf2 BK233) | ((with_reducible refine gate_callee (f := 122) rfl ?_); refine Xgo 20 Try.func122 #[.int .i64 ((rd_T135 l0 0).f1)] ?_; (with_reducible refine (spec_l03Least.calls ((rd_T135 l0 0).f1) t234 _ A5.out).mono ?_); rintro e w' ⟨rfl, ⟨nd, rfl⟩⟩; refine ⟨_, rfl, ?_⟩))
   (try simp only [XW.q0, XW.q1, XW.q2])
   go_cut [7] (fun v7 wc => ∃ (kq : Nat) (x7_5 : Int), v7 = .int .i64 x7_5 ∧ Aside0 (spec_l03Match.j0 kq l0 l1 t234 x7_5 ((rd_T135 l0 0).f0) ((rd_T135 l0 0).f1) = some r) ∧ Aside0 (kq ≤ k) ∧ Aside0 (wc.heap[gb233]? = some (.cells #[(.slice A232_0 ((rd_T135 l0 0).f0).length c232_0), .int .i64 ((rd_T135 l0 0).f1)] 135 (0, 0))) ∧ Aside0 (Below w.heap.size w wc))
   case first =>
    have H := HC6.out
    clear HC6
    obtain ⟨c9b0, H⟩ | ⟨c9b0, H⟩ := Xit H
    ·(first | rw [c9b0] | (simp only [i64_w, i32_w]; rw [c9b0]) | skip)
     obtain ⟨ji10, hji10⟩ : ∃ j_ : Int, (mn (l1.length : Int) 1) = j_ := ⟨_, rfl⟩
     replace H : (spec_l03Match.j0 k l0 l1 t234 ji10 ((rd_T135 l0 0).f0) ((rd_T135 l0 0).f1)) = some r := by first | (rw [hji10] at H; exact H) | (simp only [hji10] at H ⊢; exact H)
     (try (have hji10h : ji10 ≤ 1 := by (rw [← hji10]; unfold mn; (repeat' split) <;> omega)))
     (try (have hji10g : ji10 ≤ 64 := by omega))
     (try (have hji10l : 0 ≤ ji10 := by (rw [← hji10]; unfold mn; (repeat' split) <;> omega)))
     (try (have hji10m : 0 ≤ ji10 := by omega))
     have hji10_ : (if 1 < (l1.length : Int) then 1 else (l1.length : Int)) = ji10 := hji10
     have H' := Aside0.mk H
     clear H
     go_wp2
     go_meet
     case rel => exact ⟨_, (ji10), (by first | rfl | (simp; done) | (simp only [← hji10] <;> (first | rfl | simp)) | (simp [*]; done)), H', Xko, ⟨by (with_reducible repeat (first | refine blk_drewN ?_ _ | refine blk_drew ?_ | refine blk_alloc ?_ _)); refine blk_put (cs := #[.slice A232_0 ((rd_T135 l0 0).f0).length c232_0, .int .i64 0]) ?_ 1 _ rfl; (with_reducible repeat (first | refine blk_drewN ?_ _ | refine blk_drew ?_ | refine blk_alloc ?_ _)); refine blk_put (cs := #[.slice none 0 0, .int .i64 0]) ?_ 0 _ rfl; (with_reducible repeat (first | refine blk_drewN ?_ _ | refine blk_drew ?_ | refine blk_alloc ?_ _)); exact BK233.out⟩, ⟨Xi⟩⟩
    ·(first | rw [c9b0] | (simp only [i64_w, i32_w]; rw [c9b0]) | skip)
     have H' := Aside0.mk H
     clear H
     go_wp2
     go_meet
     case rel => exact ⟨_, ((l1.length : Int)), Xr, H', Xko, ⟨by (with_reducible repeat (first | refine blk_drewN ?_ _ | refine blk_drew ?_ | refine blk_alloc ?_ _)); refine blk_put (cs := #[.slice A232_0 ((rd_T135 l0 0).f0).length c232_0, .int .i64 0]) ?_ 1 _ rfl; (with_reducible repeat (first | refine blk_drewN ?_ _ | refine blk_drew ?_ | refine blk_alloc ?_ _)); refine blk_put (cs := #[.slice none 0 0, .int .i64 0]) ?_ 0 _ rfl; (with_reducible repeat (first | refine blk_drewN ?_ _ | refine blk_drew ?_ | refine blk_alloc ?_ _)); exact BK233.out⟩, ⟨Xi⟩⟩
   case rest =>
    clear HC6
    (try clear c1); (try clear c3); (try clear c3b0); (try clear c3b1); (try clear c3b2); (try clear c4); (try clear c4b0); (try clear c4b1); (try clear hcz8_0); (try clear hcz8_1); (try clear hfz8_0); (try clear hfz8_1); (try clear hx232_0); (try clear hx232_1); (try clear p232); (try clear q232)
    obtain ⟨kq, x7_5, rfl, HA, HJ5, BK233, HB⟩ := hcut
    cases kq with
    | zero => cases HA.out
    | succ kj5 =>
     have H := HA.out
     clear HA
     simp only [spec_l03Match.j0] at H
     have H' := Aside0.mk H
     clear H
     go_wp2
     go_loopg [8] kj5 (fun kq v8 w' => ∃ (x8_2 : Int), v8 = .int .i64 x8_2 ∧ Aside0 (spec_l03Match.l0 kq l0 l1 t234 x7_5 x8_2 ((rd_T135 l0 0).f0) ((rd_T135 l0 0).f1) = some r) ∧ Aside0 (kq ≤ kj5) ∧ Aside0 (w'.heap[gb233]? = some (.cells #[(.slice A232_0 ((rd_T135 l0 0).f0).length c232_0), .int .i64 ((rd_T135 l0 0).f1)] 135 (0, 0))) ∧ Aside0 (Below w.heap.size w w'))
     case atStart => exact ⟨(0), Xr, H', Xkr, BK233, ⟨Xi⟩⟩
     case round =>
      clear H'
      (try clear c1); (try clear c3); (try clear c3b0); (try clear c3b1); (try clear c3b2); (try clear c4); (try clear c4b0); (try clear c4b1); (try clear hcz8_0); (try clear hcz8_1); (try clear hfz8_0); (try clear hfz8_1); (try clear hx232_0); (try clear hx232_1); (try clear p232); (try clear q232)
      obtain ⟨x8_2, rfl, HA, HK2, BK233, HB⟩ := hrel
      cases gk with
      | zero => cases HA.out
      | succ k2 =>
       have H := HA.out
       clear HA
       simp only [spec_l03Match.l0] at H
       obtain ⟨c11b0, H⟩ | ⟨c11b0, H⟩ := Xit H
       ·have HC12 := Aside0.mk H
        clear H
        go_upto_region 11 with (fail)
        go_cut [43] (fun v43 wc => ∃ (kq : Nat) (x43_11 : Bool), v43 = .bool x43_11 ∧ Aside0 (spec_l03Match.j2 kq l0 l1 t234 x7_5 x8_2 x43_11 ((rd_T135 l0 0).f0) ((rd_T135 l0 0).f1) = some r) ∧ Aside0 (kq ≤ k2) ∧ Aside0 (wc.heap[gb233]? = some (.cells #[(.slice A232_0 ((rd_T135 l0 0).f0).length c232_0), .int .i64 ((rd_T135 l0 0).f1)] 135 (0, 0))) ∧ Aside0 (Below w.heap.size w wc))
        case first =>
         have H := HC12.out
         clear HC12
         obtain ⟨c13, H⟩ | ⟨c13, H⟩ := Xiu H
         ·have c13b0 : decide (t234 ≤ x8_2) = true := decide_eq_true c13
          clear c13
          (first | rw [c13b0] | (simp only [i64_w, i32_w]; rw [c13b0]) | skip)
          obtain ⟨c14, H⟩ := Xif H
          have c14b0 := eq_true c14
          have c14b1 : decide (1 ≤ (l0.length : Int)) = true := decide_eq_true c14
          clear c14
          obtain ⟨y235, hy235⟩ : ∃ y_ : List (S135), y_ = (l0.drop 1) := ⟨_, rfl⟩
          replace H : (if 0 ≤ x8_2 then (if x8_2 ≤ (l1.length : Int) then ((spec_l03Match.f k2 y235 (l1.drop (x8_2 : Int).toNat)).bind fun t240 => (spec_l03Match.j2 k2 l0 l1 t234 x7_5 x8_2 t240 ((rd_T135 l0 0).f0) ((rd_T135 l0 0).f1))) else (none)) else (none)) = some r := by first | (rw [hy235]; with_reducible exact H) | (have H2_ := (Option.bind_some _ _).symm.trans H; rw [hy235]; with_reducible exact H2_) | (have H2_ := (Option.bind_some _ _).symm.trans H; with_reducible exact H2_) | with_reducible exact H | (rw [hy235]; exact H) | exact H
          have Ny235 := Aside0.mk hy235
          clear hy235
          obtain ⟨c15, H⟩ := Xif H
          have c15b0 := eq_true c15
          have c15b1 : decide (0 ≤ x8_2) = true := decide_eq_true c15
          clear c15
          obtain ⟨c16, H⟩ := Xif H
          have c16b0 := eq_true c16
          have c16b1 : decide (x8_2 ≤ (l1.length : Int)) = true := decide_eq_true c16
          clear c16
          obtain ⟨t240, A17, H⟩ := Xbi H
          (try dsimp only at H)
          have H' := Aside0.mk H
          clear H
          try go_wp2_with (fail)
          replace BK233 := Aside0.mk (blk_drew BK233.out)
          replace HB := Aside0.mk (below_drew1 HB.out)
          have q19 : (1 : Int) ≤ ((l0.length : Int) : Int) := of_decide_eq_true Xa
          obtain ⟨i019, hi019, _, hsz19, _⟩ := info_parts info135
          have hroom19 : l0.length ≤ c0 := HC0.out
          have hC19 : Kd.C k135 _ (some ad232) l0.length l0 := HR0.out
          have hcut19 := cut_from (P := Try.prog) 93 135 .i64 Try.underlying93 hi019 2 hsz19 (some ad232) l0.length c0 1 (by omega) q19
          have hr19 := Kd.C_drop (m := (1 : Int).toNat) (c := c0) hC19 (by omega) hroom19
          obtain ⟨A19, hA19⟩ : ∃ A1, A1 = (if c0 = (1 : Int).toNat then (some ad232) else ((some ad232) : Option Addr).map (·.add ((1 : Int).toNat * 2))) := ⟨_, rfl⟩
          obtain ⟨c19, hc19⟩ : ∃ c1, c1 = c0 - (1 : Int).toNat := ⟨_, rfl⟩
          have hy19 : y235.length = l0.length - (1 : Int).toNat := (by rw [Ny235.out, List.length_drop] <;> omega)
          rw [show (l0).drop (1 : Int).toNat = y235 from Ny235.out.symm] at hr19
          replace hr19 : Kd.C k135 _ A19 y235.length y235 := (by rw [hA19]; exact hr19)
          rw [← hy19, ← hA19, ← hc19] at hcut19
          have HR238 := Aside0.mk hr19
          have HC238 := Aside0.mk (show y235.length ≤ c19 from by rw [hy19, hc19]; exact Nat.sub_le_sub_right hroom19 _)
          clear hr19 hC19 hroom19 hi019 hsz19 hc19
          have KY19 := Aside0.mk hy19
          have KA19 := Aside0.mk hA19
          clear hy19 hA19
          replace q19 := eq_true q19
          obtain ⟨i020, hi020, _, hsz20, _⟩ := info_parts info3
          obtain ⟨A20, hcut20, hA20, hC20⟩ := print_drop_of (P := Try.prog) (Value.int .i64) 0 37 3 .i64 Try.underlying37 hi020 hsz20 A1 c1 l1 x8_2 (of_decide_eq_true Xa) (of_decide_eq_true Xa) HC1.out
          have HR239 := Aside0.mk (Kd.C_of_reads (h1 := fun _ => rfl) (hA20 _ (Kd.reads_of_C HR1.out)))
          have HC239 := Aside0.mk hC20
          clear hA20 hC20 hi020 hsz20
          refine start_ (n := 11) (S := fun w' => True) (ds := []) #[false, false, false, false, false, false, false, false, false, false, false] (by kernel_rfl) rfl rfl trivial (fun hHeld => ?_); refine with_tabW spec_l03Match.tab11 spec_l03Match.bits11 (fun HT_ HW_ => ?_)
          generalize wr.drew = w18 at BK233 HB HR238 HR239 hHeld ⊢
          refine Xpu 0 33 (XW.bs 11 1) HT_.out ?_
          refine Xpu 1 34 (XW.bs 11 3) HT_.out ?_
          refine Xpu 2 35 (XW.bs 11 7) HT_.out ?_
          refine Xpu 3 36 (XW.bs 11 15) HT_.out ?_
          refine Xpu 4 37 (XW.bs 11 31) HT_.out ?_
          refine Xpu 5 38 (XW.bs 11 63) HT_.out ?_
          refine Xpu 6 39 (XW.bs 11 127) HT_.out ?_
          refine Xpu 7 40 (XW.bs 11 255) HT_.out ?_
          refine Xpu 8 41 (XW.bs 11 511) HT_.out ?_
          refine one_ (i := 9) (N := some 42) (XW.bs 11 1023) rfl rfl (one_of HT_.out (by kernel_rfl)) (by decide) (fun K hK => ?_)
          refine goes_ Try.func92 (by kernel_rfl) rfl #[.slice A19 y235.length c19, .slice A20 (l1.drop (x8_2 : Int).toNat).length (c1 - x8_2.toNat)] (by rfl) rfl rfl (by (try simp only [List.map_toArray, List.map_cons, List.map_nil]); first | done | (rw [show (l1.drop (x8_2 : Int).toNat).length = (l1.length - x8_2.toNat) from List.length_drop] <;> rfl) | rfl | (simp only [List.length_drop, List.length_take]; rfl)) ?_
          with_reducible refine (ih k2 (by have := HJ5.out; have := HK2.out; omega) _ _ y235 _ _ (l1.drop (x8_2 : Int).toNat) t240 _ ?side1 ?side2 ?side3 ?side4 A17.out).mono ?_
          (case side1 => exact Xc HR238)
          (case side2 => exact HC238.out)
          (case side3 => exact Xc HR239)
          (case side4 => exact HC239.out)
          rintro e w21 ⟨rfl, hb⟩
          refine ⟨_, rfl, ?_⟩
          replace BK233 := Xbb BK233 hb
          replace HB := Aside0.mk (below_step Xi hb)
          (try clear hb)
          (try clear hb2)
          (try clear hk)
          (try clear hi)
          refine hK.out _ _ trivial (fun hHeld => ?_)
          clear hK K
          refine Xno ?_
          refine Xpu 10 43 (XW.bs 11 2047) HT_.out ?_
          refine done_ (done_of HT_.out (by kernel_rfl)) ?_
          try go_wp2_with (fail)
          go_meet
          case rel => exact ⟨_, (t240), Xr, H', ⟨by have := HJ5.out; have := HK2.out; first | omega | exact Nat.le_refl _⟩, BK233, ⟨Xi⟩⟩
         ·have c13b0 : decide (t234 ≤ x8_2) = false := decide_eq_false c13
          clear c13
          (first | rw [c13b0] | (simp only [i64_w, i32_w]; rw [c13b0]) | skip)
          have H' := Aside0.mk H
          clear H
          try go_wp2_with (fail)
          replace BK233 := Aside0.mk (blk_drew BK233.out)
          replace HB := Aside0.mk (below_drew1 HB.out)
          refine start_ (n := 11) (S := fun w' => True) (ds := []) #[false, false, false, false, false, false, false, false, false, false, false] (by kernel_rfl) rfl rfl trivial (fun hHeld => ?_); refine with_tabW spec_l03Match.tab11 spec_l03Match.bits11 (fun HT_ HW_ => ?_)
          generalize wr.drew = w22 at BK233 HB hHeld ⊢
          refine Xpu 0 33 (XW.bs 11 1) HT_.out ?_
          refine Xpu 1 34 (XW.bs 11 3) HT_.out ?_
          refine Xpu 2 35 (XW.bs 11 7) HT_.out ?_
          refine Xpu 3 36 (XW.bs 11 15) HT_.out ?_
          refine Xpn 4 37 (XW.bs 11 31) HT_.out ?_
          refine Xpn 5 38 (XW.bs 11 63) HT_.out ?_
          refine Xpn 6 39 (XW.bs 11 127) HT_.out ?_
          refine Xpn 7 40 (XW.bs 11 255) HT_.out ?_
          refine Xpn 8 41 (XW.bs 11 511) HT_.out ?_
          refine Xpn 9 42 (XW.bs 11 1023) HT_.out ?_
          refine Xpu 10 43 (XW.bs 11 2047) HT_.out ?_
          refine done_ (done_of HT_.out (by kernel_rfl)) ?_
          try go_wp2_with (fail)
          go_meet
          case rel => exact ⟨_, (false), Xr, H', ⟨by have := HJ5.out; have := HK2.out; first | omega | exact Nat.le_refl _⟩, BK233, ⟨Xi⟩⟩
        case rest =>
         clear HC12
         (try clear c1); (try clear c3); (try clear c3b0); (try clear c3b1); (try clear c3b2); (try clear c4); (try clear c4b0); (try clear c4b1); (try clear c11); (try clear c11b0); (try clear hcz8_0); (try clear hcz8_1); (try clear hfz8_0); (try clear hfz8_1); (try clear hx232_0); (try clear hx232_1); (try clear p232); (try clear q232)
         obtain ⟨kq, x43_11, rfl, HA, HJ11, BK233, HB⟩ := hcut
         cases kq with
         | zero => cases HA.out
         | succ kj11 =>
          have H := HA.out
          clear HA
          simp only [spec_l03Match.j2] at H
          by_cases c23 : x43_11 = true
          ·subst c23
           (first | rw [if_pos rfl] at H | skip)
           obtain rfl := Option.some.inj H
           go_wp2
           go_ret
           exact ⟨Xe, Xi⟩
          ·replace c23 := Bool.eq_false_iff.mpr c23
           subst c23
           (first | rw [if_neg (show ¬ (false = true) by decide)] at H | skip)
           obtain ⟨c24b0, H⟩ | ⟨c24b0, H⟩ := Xit H
           ·obtain ⟨c25b0, H⟩ := Xid H
            obtain ⟨c26b0, H⟩ := Xid H
            obtain ⟨t242, A27, H⟩ := Xbi H
            (try dsimp only at H)
            have HC28 := Aside0.mk H
            clear H
            try go_wp2_with (fail)
            replace BK233 := Aside0.mk (blk_drew BK233.out)
            replace HB := Aside0.mk (below_drew1 HB.out)
            have p241 : 0 ≤ (x8_2 : Int) := of_decide_eq_true Xa
            have q241 : x8_2 < (l1.length : Int) := of_decide_eq_true Xa
            obtain ⟨ad241, e241, hx241_0⟩ := Kd.at_int HR1.out x8_2 p241 q241
            have hw241_0 := hx241_0
            cases e241
            replace hx241_0 := Xm HB hx241_0
            replace p241 := eq_true p241
            replace q241 := eq_true q241
            refine start_ (n := 13) (S := fun w' => w'.cell? ⟨gb233, 0, none⟩ = some (.slice A232_0 ((rd_T135 l0 0).f0).length c232_0) ∧ w'.cell? ⟨gb233, 1, none⟩ = some (.int .i64 ((rd_T135 l0 0).f1)) ∧ w'.cell? (ad241.add (x8_2).toNat) = some (.int .i64 (rd l1 x8_2))) (ds := []) #[false, false, false, false, false, false, false, false, false, false, false, false, false] (by kernel_rfl) rfl rfl ⟨(blk_cell BK233.out 0).trans rfl, (blk_cell BK233.out 1).trans rfl, Xn hw241_0⟩ (fun hHeld => ?_); refine with_tabW spec_l03Match.tab13 spec_l03Match.bits13 (fun HT_ HW_ => ?_)
            generalize wc.drew = w29 at BK233 HB hx241_0 hHeld ⊢
            refine Xpu 0 44 (XW.bs 13 1) HT_.out ?_
            refine Xpu 1 45 (XW.bs 13 3) HT_.out ?_
            refine Xpu 2 46 (XW.bs 13 7) HT_.out ?_
            refine Xpu 3 47 (XW.bs 13 15) HT_.out ?_
            refine Xpu 4 48 (XW.bs 13 31) HT_.out ?_
            refine Xpu 6 50 (XW.bs 13 95) HT_.out ?_
            refine Xpu 7 51 (XW.bs 13 223) HT_.out ?_
            refine Xpu 8 52 (XW.bs 13 479) HT_.out ?_
            refine Xta 5 49 (XW.bs 13 511) HT_.out HW_.out hHeld ?_
            refine Xta 9 53 (XW.bs 13 1023) HT_.out HW_.out hHeld ?_
            refine one_ (i := 10) (N := some 54) (XW.bs 13 2047) rfl rfl (one_of HT_.out (by kernel_rfl)) (by decide) (fun K hK => ?_)
            refine goes_ Try.func102 (by kernel_rfl) rfl #[.slice A232_0 ((rd_T135 l0 0).f0).length c232_0, .int .i64 (rd l1 x8_2)] (by rfl) rfl rfl (by (try simp only [List.map_toArray, List.map_cons, List.map_nil]); first | done | rfl | (simp only [List.length_drop, List.length_take]; rfl)) ?_
            with_reducible refine (spec_l02Has.calls kj11 _ _ ((rd_T135 l0 0).f0) (rd l1 x8_2) t242 _ ?side1 ?side2 A27.out).mono ?_
            (case side1 => exact Xc HR232_0)
            (case side2 => exact HC232_0.out)
            rintro e w' ⟨rfl, ⟨nd, rfl⟩⟩
            refine ⟨_, rfl, ?_⟩
            refine hK.out _ _ ⟨(blk_cell BK233.out 0).trans rfl, (blk_cell BK233.out 1).trans rfl, Xn hw241_0⟩ (fun hHeld => ?_)
            clear hK K
            refine Xno ?_
            refine Xpu 11 55 (XW.bs 13 4095) HT_.out ?_
            refine Xpu 12 56 (XW.bs 13 8191) HT_.out ?_
            refine done_ (done_of HT_.out (by kernel_rfl)) ?_
            go_upto_if 56 with (fail)
            (try (rw [drewN_self w29]; generalize hq_ : World.drewN w29 _ = w29; have n0_ : Aside0 (w29.heap[gb233]? = some (.cells #[.slice A232_0 ((rd_T135 l0 0).f0).length c232_0, .int .i64 ((rd_T135 l0 0).f1)] 135 (0, 0))) := ⟨by rw [← hq_]; exact BK233.out⟩; have n1_ : Aside0 (Below w.heap.size w w29) := ⟨by rw [← hq_]; exact Xi⟩; clear BK233 HB hq_; have BK233 := n0_; have HB := n1_; clear n0_ n1_))
            have H := HC28.out
            clear HC28
            by_cases c30 : t242 = true
            ·subst c30
             (first | rw [if_pos rfl] at H | skip)
             have H' := Aside0.mk H
             clear H
             go_wp2
             go_roundg kj11
             case measure => have := HJ5.out; have := HK2.out; have := HJ11.out; omega
             case rel => exact ⟨(wrap64 (x8_2 + 1)), Xr, H', ⟨by have := HJ5.out; have := HK2.out; have := HJ11.out; omega⟩, BK233, ⟨Xi⟩⟩
            ·replace c30 := Bool.eq_false_iff.mpr c30
             subst c30
             (first | rw [if_neg (show ¬ (false = true) by decide)] at H | skip)
             obtain rfl := Option.some.inj H
             go_wp2
             go_ret
             exact ⟨Xe, Xi⟩
           ·have H' := Aside0.mk H
            clear H
            try go_wp2_with (fail)
            replace BK233 := Aside0.mk (blk_drew BK233.out)
            replace HB := Aside0.mk (below_drew1 HB.out)
            refine start_ (n := 13) (S := fun w' => True) (ds := []) #[false, false, false, false, false, false, false, false, false, false, false, false, false] (by kernel_rfl) rfl rfl trivial (fun hHeld => ?_); refine with_tabW spec_l03Match.tab13 spec_l03Match.bits13 (fun HT_ HW_ => ?_)
            generalize wc.drew = w31 at BK233 HB hHeld ⊢
            refine Xpu 0 44 (XW.bs 13 1) HT_.out ?_
            refine Xpu 1 45 (XW.bs 13 3) HT_.out ?_
            refine Xpu 2 46 (XW.bs 13 7) HT_.out ?_
            refine Xpu 3 47 (XW.bs 13 15) HT_.out ?_
            refine Xpn 4 48 (XW.bs 13 31) HT_.out ?_
            refine Xpn 5 49 (XW.bs 13 63) HT_.out ?_
            refine Xpn 6 50 (XW.bs 13 127) HT_.out ?_
            refine Xpn 7 51 (XW.bs 13 255) HT_.out ?_
            refine Xpn 8 52 (XW.bs 13 511) HT_.out ?_
            refine Xpn 9 53 (XW.bs 13 1023) HT_.out ?_
            refine Xpn 10 54 (XW.bs 13 2047) HT_.out ?_
            refine Xpn 11 55 (XW.bs 13 4095) HT_.out ?_
            refine Xpu 12 56 (XW.bs 13 8191) HT_.out ?_
            refine done_ (done_of HT_.out (by kernel_rfl)) ?_
            try go_wp2_with (fail)
            go_roundg kj11
            case measure => have := HJ5.out; have := HK2.out; have := HJ11.out; omega
            case rel => exact ⟨(wrap64 (x8_2 + 1)), Xr, H', ⟨by have := HJ5.out; have := HK2.out; have := HJ11.out; omega⟩, BK233, ⟨Xi⟩⟩
       ·obtain rfl := Option.some.inj H
        go_wp2
        go_ret
        exact ⟨Xe, Xi⟩
  ·exact absurd H (by simp)

end Go.Proofs.Ytpdhccdmbdbdpaa.XA
