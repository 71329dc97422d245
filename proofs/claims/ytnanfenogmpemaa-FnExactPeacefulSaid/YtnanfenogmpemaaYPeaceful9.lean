/- Contracts of the program's functions: each Go function that is named below comes to what its Lean function says. Written by xprint.py (a program of this session's, over the kit's print). Conditions: each contract's own premises. -/
import Derived.Test.YtnanfenogmpemaaYPeaceful0
import Derived.Test.YtnanfenogmpemaaYPeaceful8
namespace Go.Proofs.Ytnanfenogmpemaa.XA
open Go.RowKit Go.Proofs.YtnanfenogmpemaaW.PrintWords Go.Proofs.YtnanfenogmpemaaW.PrintLast Go.Proofs.YtnanfenogmpemaaW.PrintMore XW
attribute [local go_sem] max2_int min2_int max_two min_two max_three min_three max_four min_four   -- for this text's walks alone
set_option linter.unusedVariables false
set_option linter.unusedSimpArgs false

/-! ### spec_l07Fits: function 103 -/
mutual
def spec_l07Fits.j0 : Nat → Int → Int → Bool → Option (Bool)
 | 0, _, _, _ => none
 | k + 1, x0, x1, x10 => if x10 = true then (some true) else (if x0 > x1 then ((spec_l07Fits.f k x1 x0).bind fun t259 => (some t259)) else (if x0 = 1 then (some (x1 != 5)) else (if x0 = 2 then (some (x1 == 2)) else (if x0 = 3 then (some (x1 == 3)) else (some false)))))
def spec_l07Fits.f : Nat → Int → Int → Option (Bool)
 | 0, _, _ => none
 | k + 1, a0, a1 => if a0 = 0 then (spec_l07Fits.j0 k a0 a1 true) else (spec_l07Fits.j0 k a0 a1 (a1 == 0))
end
set_option maxHeartbeats 8000000 in
set_option maxRecDepth 100000 in
theorem spec_l07Fits.calls (k : Nat) : ∀ (a0 : Int) (a1 : Int) (r : Bool) (w : World) (h : spec_l07Fits.f k a0 a1 = some r),
  Calls Try.prog 103 #[.int .i64 a0, .int .i64 a1] w fun e w' => e = .returned (.bool r) ∧ Below w.heap.size w w' := by
 induction k using Nat.strongRecOn with
 | _ k ih =>
 intro a0 a1 r w h
 cases k with
 | zero => exact absurd h (by simp [spec_l07Fits.f])
 | succ k =>
 simp only [spec_l07Fits.f] at h
 have HB := Aside0.mk (Below.refl w.heap.size w)
 have H : (if a0 = 0 then (spec_l07Fits.j0 k a0 a1 true) else (spec_l07Fits.j0 k a0 a1 (a1 == 0))) = some r := h
 clear h
 have HC3 := Aside0.mk H
 clear H
 go_enter Try.func103, Try.ntmps103
 go_upto_region 1 with (fail)
 go_cut [10] (fun v10 wc => ∃ (kq : Nat) (x10_2 : Bool), v10 = .bool x10_2 ∧ Aside0 (spec_l07Fits.j0 kq a0 a1 x10_2 = some r) ∧ Aside0 (kq ≤ k) ∧ Aside0 (Below w.heap.size w wc))
 case first =>
  have H := HC3.out
  clear HC3
  obtain ⟨c4, H⟩ | ⟨c4, H⟩ := Xiu H
  ·have c4b0 : (a0 == 0) = true := beq_iff_eq.mpr c4
   have c4b1 : (a0 != 0) = false := bne_eq_false_iff_eq.mpr c4
   clear c4
   (first | rw [c4b0] | (simp only [i64_w, i32_w]; rw [c4b0]) | skip)
   have H' := Aside0.mk H
   clear H
   go_wp2
   go_meet
   case rel => exact ⟨_, (true), Xr, H', Xko, ⟨Xi⟩⟩
  ·have c4b0 : (a0 == 0) = false := beq_eq_false_iff_ne.mpr c4
   have c4b1 : (a0 != 0) = true := bne_iff_ne.mpr c4
   (first | rw [c4b0] | (simp only [i64_w, i32_w]; rw [c4b0]) | skip)
   have H' := Aside0.mk H
   clear H
   go_wp2
   go_meet
   case rel => exact ⟨_, ((a1 == 0)), Xr, H', Xko, ⟨Xi⟩⟩
 case rest =>
  clear HC3
  obtain ⟨kq, x10_2, rfl, HA, HJ2, HB⟩ := hcut
  cases kq with
  | zero => cases HA.out
  | succ kj2 =>
   have H := HA.out
   clear HA
   simp only [spec_l07Fits.j0] at H
   by_cases c5 : x10_2 = true
   ·subst c5
    (first | rw [if_pos rfl] at H | skip)
    obtain rfl := Option.some.inj H
    go_wp2
    go_ret
    exact ⟨Xe, Xi⟩
   ·replace c5 := Bool.eq_false_iff.mpr c5
    subst c5
    (first | rw [if_neg (show ¬ (false = true) by decide)] at H | skip)
    obtain ⟨c6, H⟩ | ⟨c6, H⟩ := Xiu H
    ·have c6b0 : decide (a1 < a0) = true := decide_eq_true c6
     clear c6
     obtain ⟨t259, A7, H⟩ := Xbi H
     (try dsimp only at H)
     obtain rfl := Option.some.inj H
     go_wp2_with (first | ((with_reducible refine gate_callee (f := 103) rfl ?_); refine Xgo 16 Try.func103 #[.int .i64 a1, .int .i64 a0] ?_; (with_reducible refine (ih kj2 (by have := HJ2.out; omega) a1 a0 t259 _ A7.out).mono ?_); rintro e w8 ⟨rfl, hb⟩; refine ⟨_, rfl, ?_⟩; replace HB := Aside0.mk (below_step Xi hb); clear hb))
     go_ret
     exact ⟨Xe, Xi⟩
    ·have c6b0 : decide (a1 < a0) = false := decide_eq_false c6
     clear c6
     obtain ⟨c9, H⟩ | ⟨c9, H⟩ := Xiu H
     ·have c9b0 : (a0 == 1) = true := beq_iff_eq.mpr c9
      have c9b1 : (a0 != 1) = false := bne_eq_false_iff_eq.mpr c9
      clear c9
      obtain rfl := Option.some.inj H
      go_wp2
      go_ret
      exact ⟨Xe, Xi⟩
     ·have c9b0 : (a0 == 1) = false := beq_eq_false_iff_ne.mpr c9
      have c9b1 : (a0 != 1) = true := bne_iff_ne.mpr c9
      obtain ⟨c10, H⟩ | ⟨c10, H⟩ := Xiu H
      ·have c10b0 : (a0 == 2) = true := beq_iff_eq.mpr c10
       have c10b1 : (a0 != 2) = false := bne_eq_false_iff_eq.mpr c10
       clear c10
       obtain rfl := Option.some.inj H
       go_wp2
       go_ret
       exact ⟨Xe, Xi⟩
      ·have c10b0 : (a0 == 2) = false := beq_eq_false_iff_ne.mpr c10
       have c10b1 : (a0 != 2) = true := bne_iff_ne.mpr c10
       obtain ⟨c11, H⟩ | ⟨c11, H⟩ := Xiu H
       ·have c11b0 : (a0 == 3) = true := beq_iff_eq.mpr c11
        have c11b1 : (a0 != 3) = false := bne_eq_false_iff_eq.mpr c11
        clear c11
        obtain rfl := Option.some.inj H
        go_wp2
        go_ret
        exact ⟨Xe, Xi⟩
       ·have c11b0 : (a0 == 3) = false := beq_eq_false_iff_ne.mpr c11
        have c11b1 : (a0 != 3) = true := bne_iff_ne.mpr c11
        obtain rfl := Option.some.inj H
        go_wp2
        go_ret
        exact ⟨Xe, Xi⟩

/-! ### spec_l07Peace: function 62 -/
mutual
def spec_l07Peace.l0 : Nat → List (S55) → List Int → Int → Int → Int → List (S92) → Option (Bool)
 | 0, _, _, _, _, _, _ => none
 | k + 1, x1, x5, x6, x261000, x261001, x261002 => if x6 < (x5.length : Int) then (spec_l07Peace.l1 k x1 x5 x6 0 x261000 x261001 x261002) else (some true)
def spec_l07Peace.l1 : Nat → List (S55) → List Int → Int → Int → Int → Int → List (S92) → Option (Bool)
 | 0, _, _, _, _, _, _, _ => none
 | k + 1, x1, x5, x6, x7, x261000, x261001, x261002 => if x7 < x6 then (spec_l07Peace.l2 k x1 x5 x6 x7 0 x261000 x261001 x261002) else (spec_l07Peace.l0 k x1 x5 (wrap64 (x6 + 1)) x261000 x261001 x261002)
def spec_l07Peace.l2 : Nat → List (S55) → List Int → Int → Int → Int → Int → Int → List (S92) → Option (Bool)
 | 0, _, _, _, _, _, _, _, _ => none
 | k + 1, x1, x5, x6, x7, x8, x261000, x261001, x261002 => if x8 < (x261002.length : Int) then (if 0 ≤ x8 then (if 0 ≤ x6 then (if x6 < (x5.length : Int) then ((spec_l07At.f k x261000 x261001 x261002 x1 (rd x5 x6) ((rd_T92 x261002 x8).f0)).bind fun t266 => (if 0 ≤ x7 then (if x7 < (x5.length : Int) then ((spec_l07At.f k x261000 x261001 x261002 x1 (rd x5 x7) ((rd_T92 x261002 x8).f0)).bind fun t268 => ((spec_l07Fits.f k t266 t268).bind fun t269 => (if t269 = true then (spec_l07Peace.l2 k x1 x5 x6 x7 (wrap64 (x8 + 1)) x261000 x261001 x261002) else (some false)))) else (none)) else (none))) else (none)) else (none)) else (none)) else (spec_l07Peace.l1 k x1 x5 x6 (wrap64 (x7 + 1)) x261000 x261001 x261002)
end
def spec_l07Peace.f (k : Nat) (a0_0 : Int) (a0_1 : Int) (l0_2 : List (S92)) (l1 : List (S55)) : Option (Bool) := (spec_l07Sessions.f k l1).bind fun t261 => (spec_l07Peace.l0 k l1 t261 0 a0_0 a0_1 l0_2)
def spec_l07Peace.T12 : Bool × List (List Nat × List Nat) := (true, [([], []), ([], []), ([], []), ([], []), ([2, 3], [2, 3]), ([4], [4]), ([], []), ([0, 1, 5, 6], [0, 1, 5, 6]), ([], []), ([], []), ([], []), ([], []), ([10, 11], [10, 11]), ([12], [12]), ([], []), ([8, 9, 13, 14, 7], [8, 9, 13, 14]), ([7, 15, 15], [7, 15]), ([16], [16])])
def spec_l07Peace.B12 : List Nat := [0, 0, 0, 0, 12, 28, 0, 127, 0, 0, 0, 0, 3072, 7168, 0, 32767, 65535, 131071]
theorem spec_l07Peace.tab12 : rtab .any (opsOf Try.f62 12) = spec_l07Peace.T12 := by kernel_rfl
theorem spec_l07Peace.bits12 : waitsOk spec_l07Peace.T12.2 spec_l07Peace.B12 = true := by kernel_rfl
set_option maxHeartbeats 8000000 in
set_option maxRecDepth 100000 in
theorem spec_l07Peace.calls (k : Nat) (a0_0 : Int) (a0_1 : Int) (A0_2 : Option Addr) (c0_2 : Nat) (l0_2 : List (S92)) (A1 : Option Addr) (c1 : Nat) (l1 : List (S55)) (r : Bool) (w : World) (hr0_2 : Kd.C k92 w A0_2 l0_2.length l0_2) (hc0_2 : l0_2.length ≤ c0_2) (hr1 : Kd.C k55 w A1 l1.length l1) (hc1 : l1.length ≤ c1) (h : spec_l07Peace.f k a0_0 a0_1 l0_2 l1 = some r) :
  Calls Try.prog 62 #[.agg #[.int .i64 a0_0, .int .i64 a0_1, .slice A0_2 l0_2.length c0_2], .slice A1 l1.length c1] w fun e w' => e = .returned (.bool r) ∧ Below w.heap.size w w' := by
 have hu33 := Try.underlying33
 have HR0_2 := Aside0.mk hr0_2
 have HC0_2 := Aside0.mk hc0_2
 clear hr0_2 hc0_2
 have HR1 := Aside0.mk hr1
 have HC1 := Aside0.mk hc1
 clear hr1 hc1
 have HB := Aside0.mk (Below.refl w.heap.size w)
 have H : ((spec_l07Sessions.f k l1).bind fun t261 => (spec_l07Peace.l0 k l1 t261 0 a0_0 a0_1 l0_2)) = some r := h
 clear h
 obtain ⟨t261, A3, H⟩ := Xbi H
 (try dsimp only at H)
 have H' := Aside0.mk H
 clear H
 go_enter Try.func62, Try.ntmps62
 go_wp2_with (first | ((with_reducible refine gate_dst (N := 2) rfl ?_); refine Xbox 2 #[.int .i64 a0_0, .int .i64 a0_1, .slice A0_2 l0_2.length c0_2] 33 ?_; intro gb260 hg w4 hbox hb; have BK260 := Aside0.mk (hbox); have GE260 := Xge hg Xi; replace HB := Aside0.mk (below_step Xi hb); clear hb hbox hg) | ((with_reducible refine gate_callee (f := 102) rfl ?_); refine Xgo 11 Try.func102 #[.slice A1 l1.length c1] ?_; (with_reducible refine (spec_l07Sessions.calls k _ _ l1 t261 _ ?side1 ?side2 A3.out).mono ?_); (case side1 => exact Xc HR1); (case side2 => exact HC1.out); rintro e w5 ⟨v262, rfl, ho0, hb⟩; refine ⟨_, rfl, ?_⟩; have HO263 := Aside0.mk (Kd.R_lower ho0 (below_size Xi)); replace BK260 := Xbb BK260 hb; replace HB := Aside0.mk (below_step Xi hb); clear hb; (try clear ho0)))
 go_loopg [6] k (fun kq v6 w' => ∃ (x6_1 : Int), v6 = .int .i64 x6_1 ∧ Aside0 (spec_l07Peace.l0 kq l1 t261 x6_1 a0_0 a0_1 l0_2 = some r) ∧ Aside0 (kq ≤ k) ∧ Aside0 (Kd.R (Kd.int .i64) 3 w' w.heap.size (fun _ => True) v262 t261) ∧ Aside0 (w'.heap[gb260]? = some (.cells #[.int .i64 a0_0, .int .i64 a0_1, (.slice A0_2 l0_2.length c0_2)] 33 (0, 0))) ∧ Aside0 (Below w.heap.size w w'))
 case atStart => exact ⟨(0), Xr, H', Xkr, (Xp' HO263), BK260, ⟨Xi⟩⟩
 case round =>
  clear H'
  (try clear c1)
  obtain ⟨x6_1, rfl, HA, HK1, HO_5, BK260, HB⟩ := hrel
  cases gk with
  | zero => cases HA.out
  | succ k1 =>
   have H := HA.out
   clear HA
   simp only [spec_l07Peace.l0] at H
   obtain ⟨c6b0, H⟩ | ⟨c6b0, H⟩ := Xit H
   ·have H' := Aside0.mk H
    clear H
    obtain ⟨Ao7, co7, eo7⟩ := Kd.R_slice HO_5.out
    subst eo7
    go_wp2
    go_loopg [7] k1 (fun kq v7 w' => ∃ (x7_2 : Int), v7 = .int .i64 x7_2 ∧ Aside0 (spec_l07Peace.l1 kq l1 t261 x6_1 x7_2 a0_0 a0_1 l0_2 = some r) ∧ Aside0 (kq ≤ k1) ∧ Aside0 (Kd.R (Kd.int .i64) 3 w' w.heap.size (fun _ => True) (.slice Ao7 t261.length co7) t261) ∧ Aside0 (w'.heap[gb260]? = some (.cells #[.int .i64 a0_0, .int .i64 a0_1, (.slice A0_2 l0_2.length c0_2)] 33 (0, 0))) ∧ Aside0 (Below w.heap.size w w'))
    case atStart => exact ⟨(0), Xr, H', Xkr, (Xp' HO_5), BK260, ⟨Xi⟩⟩
    case round =>
     clear H'
     (try clear c1); (try clear c6); (try clear c6b0)
     obtain ⟨x7_2, rfl, HA, HK2, HO_5, BK260, HB⟩ := hrel
     cases gk with
     | zero => cases HA.out
     | succ k2 =>
      have H := HA.out
      clear HA
      simp only [spec_l07Peace.l1] at H
      obtain ⟨c8b0, H⟩ | ⟨c8b0, H⟩ := Xit H
      ·have H' := Aside0.mk H
       clear H
       go_wp2
       go_loopg [8] k2 (fun kq v8 w' => ∃ (x8_3 : Int), v8 = .int .i64 x8_3 ∧ Aside0 (spec_l07Peace.l2 kq l1 t261 x6_1 x7_2 x8_3 a0_0 a0_1 l0_2 = some r) ∧ Aside0 (kq ≤ k2) ∧ Aside0 (Kd.R (Kd.int .i64) 3 w' w.heap.size (fun _ => True) (.slice Ao7 t261.length co7) t261) ∧ Aside0 (w'.heap[gb260]? = some (.cells #[.int .i64 a0_0, .int .i64 a0_1, (.slice A0_2 l0_2.length c0_2)] 33 (0, 0))) ∧ Aside0 (Below w.heap.size w w'))
       case atStart => exact ⟨(0), Xr, H', Xkr, (Xp' HO_5), BK260, ⟨Xi⟩⟩
       case round =>
        clear H'
        (try clear c1); (try clear c6); (try clear c6b0); (try clear c8); (try clear c8b0)
        obtain ⟨x8_3, rfl, HA, HK3, HO_5, BK260, HB⟩ := hrel
        cases gk with
        | zero => cases HA.out
        | succ k3 =>
         have H := HA.out
         clear HA
         simp only [spec_l07Peace.l2] at H
         obtain ⟨c9b0, H⟩ | ⟨c9b0, H⟩ := Xit H
         ·obtain ⟨c10b0, H⟩ := Xid H
          obtain ⟨c11b0, H⟩ := Xid H
          obtain ⟨c12b0, H⟩ := Xid H
          obtain ⟨t266, A13, H⟩ := Xbi H
          (try dsimp only at H)
          obtain ⟨c14b0, H⟩ := Xid H
          obtain ⟨c15b0, H⟩ := Xid H
          obtain ⟨t268, A16, H⟩ := Xbi H
          (try dsimp only at H)
          obtain ⟨t269, A17, H⟩ := Xbi H
          (try dsimp only at H)
          have HC18 := Aside0.mk H
          clear H
          obtain ⟨hcz19_0, hcz19_1, hcz19_2⟩ := Xc3 BK260
          obtain ⟨ad264, A264_4, c264_4, e264, p264, q264, hx264_0, hx264_1, hx264_2, hx264_3, hx264_4, HC264_4, HR264_4⟩ := at_B92 HR0_2 x8_3 Xa Xa HB
          cases e264
          try go_wp2_with (fail)
          replace HO_5 := Aside0.mk (Kd.R_drew HO_5.out)
          replace BK260 := Aside0.mk (blk_drew BK260.out)
          replace HB := Aside0.mk (below_drew1 HB.out)
          have p265 : 0 ≤ (x6_1 : Int) := of_decide_eq_true Xa
          have q265 : x6_1 < (t261.length : Int) := of_decide_eq_true Xa
          obtain ⟨ad265, e265, hx265_0⟩ := Kd.at_int (Kd.R_reads' HO_5.out).2.2 x6_1 p265 q265
          cases e265
          replace p265 := eq_true p265
          replace q265 := eq_true q265
          have p267 : 0 ≤ (x7_2 : Int) := of_decide_eq_true Xa
          have q267 : x7_2 < (t261.length : Int) := of_decide_eq_true Xa
          obtain ⟨ad267, e267, hx267_0⟩ := Kd.at_int (Kd.R_reads' HO_5.out).2.2 x7_2 p267 q267
          obtain rfl : ad265 = ad267 := (by injection e267)
          replace p267 := eq_true p267
          replace q267 := eq_true q267
          refine start_ (n := 18) (S := fun w' => w'.cell? ⟨gb260, 0, none⟩ = some (.int .i64 a0_0) ∧ w'.cell? ⟨gb260, 1, none⟩ = some (.int .i64 a0_1) ∧ w'.cell? ⟨gb260, 2, none⟩ = some (.slice (some ad264) l0_2.length c0_2) ∧ w'.cell? (ad265.add (x6_1).toNat) = some (.int .i64 (rd t261 x6_1)) ∧ w'.cell? (ad265.add (x7_2).toNat) = some (.int .i64 (rd t261 x7_2))) (ds := []) #[false, false, false, false, false, false, false, false, false, false, false, false, false, false, false, false, false, false] (by kernel_rfl) rfl rfl ⟨(blk_cell BK260.out 0).trans rfl, (blk_cell BK260.out 1).trans rfl, (blk_cell BK260.out 2).trans rfl, hx265_0, hx267_0⟩ (fun hHeld => ?_); refine with_tabW spec_l07Peace.tab12 spec_l07Peace.bits12 (fun HT_ HW_ => ?_)
          generalize wr.drew = w20 at HO_5 BK260 HB hx265_0 hx267_0 hHeld ⊢
          refine Xpu 1 37 (XW.bs 18 2) HT_.out ?_
          refine Xpu 2 38 (XW.bs 18 6) HT_.out ?_
          refine Xpu 3 39 (XW.bs 18 14) HT_.out ?_
          refine Xpu 4 40 (XW.bs 18 30) HT_.out ?_
          refine Xpu 6 42 (XW.bs 18 94) HT_.out ?_
          refine Xpu 9 45 (XW.bs 18 606) HT_.out ?_
          refine Xpu 10 46 (XW.bs 18 1630) HT_.out ?_
          refine Xpu 11 47 (XW.bs 18 3678) HT_.out ?_
          refine Xpu 12 48 (XW.bs 18 7774) HT_.out ?_
          refine Xpu 14 50 (XW.bs 18 24158) HT_.out ?_
          refine Xta 0 36 (XW.bs 18 24159) HT_.out HW_.out hHeld ?_
          refine Xta 5 41 (XW.bs 18 24191) HT_.out HW_.out hHeld ?_
          refine Xta 8 44 (XW.bs 18 24447) HT_.out HW_.out hHeld ?_
          refine Xta 13 49 (XW.bs 18 32639) HT_.out HW_.out hHeld ?_
          refine one_ (i := 7) (N := some 43) (XW.bs 18 32767) rfl rfl (one_of HT_.out (by kernel_rfl)) (by decide) (fun K hK => ?_)
          refine goes_ Try.func51 (by kernel_rfl) rfl #[.agg #[.int .i64 a0_0, .int .i64 a0_1, .slice (some ad264) l0_2.length c0_2], .slice A1 l1.length c1, .int .i64 (rd t261 x6_1), .int .i64 ((rd_T92 l0_2 x8_3).f0)] (by rfl) rfl rfl (by (try simp only [List.map_toArray, List.map_cons, List.map_nil]); first | done | rfl | (simp only [List.length_drop, List.length_take]; rfl)) ?_
          with_reducible refine (spec_l07At.calls k3 a0_0 a0_1 _ _ l0_2 _ _ l1 (rd t261 x6_1) ((rd_T92 l0_2 x8_3).f0) t266 _ ?side1 ?side2 ?side3 ?side4 A13.out).mono ?_
          (case side1 => exact Xc HR0_2)
          (case side2 => exact HC0_2.out)
          (case side3 => exact Xc HR1)
          (case side4 => exact HC1.out)
          rintro e w21 ⟨rfl, hb⟩
          have HS3_ := (hb.cell (World.block_lt_of_cell? _ _ (hHeld.2.2.2.1))).trans (hHeld.2.2.2.1)
          have HS4_ := (hb.cell (World.block_lt_of_cell? _ _ (hHeld.2.2.2.2))).trans (hHeld.2.2.2.2)
          refine ⟨_, rfl, ?_⟩
          replace HO_5 := Aside0.mk (Kd.R_below (Xq HO_5) hb)
          replace BK260 := Xbb BK260 hb
          replace HB := Aside0.mk (below_step Xi hb)
          (try clear hb)
          (try clear hb2)
          (try clear hk)
          (try clear hi)
          refine hK.out _ _ ⟨(blk_cell BK260.out 0).trans rfl, (blk_cell BK260.out 1).trans rfl, (blk_cell BK260.out 2).trans rfl, HS3_, HS4_⟩ (fun hHeld => ?_)
          clear hK K
          refine Xno ?_
          refine one_ (i := 15) (N := some 51) (XW.bs 18 65535) rfl rfl (one_of HT_.out (by kernel_rfl)) (by decide) (fun K hK => ?_)
          refine goes_ Try.func51 (by kernel_rfl) rfl #[.agg #[.int .i64 a0_0, .int .i64 a0_1, .slice (some ad264) l0_2.length c0_2], .slice A1 l1.length c1, .int .i64 (rd t261 x7_2), .int .i64 ((rd_T92 l0_2 x8_3).f0)] (by rfl) rfl rfl (by (try simp only [List.map_toArray, List.map_cons, List.map_nil]); first | done | rfl | (simp only [List.length_drop, List.length_take]; rfl)) ?_
          with_reducible refine (spec_l07At.calls k3 a0_0 a0_1 _ _ l0_2 _ _ l1 (rd t261 x7_2) ((rd_T92 l0_2 x8_3).f0) t268 _ ?side1 ?side2 ?side3 ?side4 A16.out).mono ?_
          (case side1 => exact Xc HR0_2)
          (case side2 => exact HC0_2.out)
          (case side3 => exact Xc HR1)
          (case side4 => exact HC1.out)
          rintro e w22 ⟨rfl, hb⟩
          have HS3_ := (hb.cell (World.block_lt_of_cell? _ _ (hHeld.2.2.2.1))).trans (hHeld.2.2.2.1)
          have HS4_ := (hb.cell (World.block_lt_of_cell? _ _ (hHeld.2.2.2.2))).trans (hHeld.2.2.2.2)
          refine ⟨_, rfl, ?_⟩
          replace HO_5 := Aside0.mk (Kd.R_below (Xq HO_5) hb)
          replace BK260 := Xbb BK260 hb
          replace HB := Aside0.mk (below_step Xi hb)
          (try clear hb)
          (try clear hb2)
          (try clear hk)
          (try clear hi)
          refine hK.out _ _ ⟨(blk_cell BK260.out 0).trans rfl, (blk_cell BK260.out 1).trans rfl, (blk_cell BK260.out 2).trans rfl, HS3_, HS4_⟩ (fun hHeld => ?_)
          clear hK K
          refine Xno ?_
          refine one_ (i := 16) (N := some 52) (XW.bs 18 131071) rfl rfl (one_of HT_.out (by kernel_rfl)) (by decide) (fun K hK => ?_)
          refine goes_ Try.func103 (by kernel_rfl) rfl #[.int .i64 t266, .int .i64 t268] (by rfl) rfl rfl (by (try simp only [List.map_toArray, List.map_cons, List.map_nil]); first | done | rfl | (simp only [List.length_drop, List.length_take]; rfl)) ?_
          with_reducible refine (spec_l07Fits.calls k3 t266 t268 t269 _ A17.out).mono ?_
          rintro e w23 ⟨rfl, hb⟩
          have HS3_ := (hb.cell (World.block_lt_of_cell? _ _ (hHeld.2.2.2.1))).trans (hHeld.2.2.2.1)
          have HS4_ := (hb.cell (World.block_lt_of_cell? _ _ (hHeld.2.2.2.2))).trans (hHeld.2.2.2.2)
          refine ⟨_, rfl, ?_⟩
          replace HO_5 := Aside0.mk (Kd.R_below (Xq HO_5) hb)
          replace BK260 := Xbb BK260 hb
          replace HB := Aside0.mk (below_step Xi hb)
          (try clear hb)
          (try clear hb2)
          (try clear hk)
          (try clear hi)
          refine hK.out _ _ ⟨(blk_cell BK260.out 0).trans rfl, (blk_cell BK260.out 1).trans rfl, (blk_cell BK260.out 2).trans rfl, HS3_, HS4_⟩ (fun hHeld => ?_)
          clear hK K
          refine Xno ?_
          refine Xpu 17 53 (XW.bs 18 262143) HT_.out ?_
          refine done_ (done_of HT_.out (by kernel_rfl)) ?_
          go_upto_if 53 with (fail)
          have H := HC18.out
          clear HC18
          by_cases c24 : t269 = true
          ·subst c24
           (first | rw [if_pos rfl] at H | skip)
           have H' := Aside0.mk H
           clear H
           go_wp2
           go_roundg k3
           case measure => have := HK1.out; have := HK2.out; have := HK3.out; omega
           case rel => exact ⟨(wrap64 (x8_3 + 1)), Xr, H', ⟨by have := HK1.out; have := HK2.out; have := HK3.out; omega⟩, (Xp' HO_5), BK260, ⟨Xi⟩⟩
          ·replace c24 := Bool.eq_false_iff.mpr c24
           subst c24
           (first | rw [if_neg (show ¬ (false = true) by decide)] at H | skip)
           obtain rfl := Option.some.inj H
           go_wp2
           go_ret
           exact ⟨Xe, Xi⟩
         ·have H' := Aside0.mk H
          clear H
          obtain ⟨hcz25_0, hcz25_1, hcz25_2⟩ := Xc3 BK260
          go_wp2
          go_roundg k3
          case measure => have := HK1.out; have := HK2.out; have := HK3.out; omega
          case rel => exact ⟨(wrap64 (x7_2 + 1)), Xr, H', ⟨by have := HK1.out; have := HK2.out; have := HK3.out; omega⟩, (Xp' HO_5), BK260, ⟨Xi⟩⟩
      ·have H' := Aside0.mk H
       clear H
       go_wp2
       go_roundg k2
       case measure => have := HK1.out; have := HK2.out; omega
       case rel => exact ⟨(wrap64 (x6_1 + 1)), Xr, H', ⟨by have := HK1.out; have := HK2.out; omega⟩, (Xp' HO_5), BK260, ⟨Xi⟩⟩
   ·obtain rfl := Option.some.inj H
    obtain ⟨Ao26, co26, eo26⟩ := Kd.R_slice HO_5.out
    subst eo26
    go_wp2
    go_ret
    exact ⟨Xe, Xi⟩

/-! ### spec_Peaceful: function 33 -/
def spec_Peaceful.f (k : Nat) (a0_0 : Int) (a0_1 : Int) (l0_2 : List (S92)) (l1 : List (S55)) : Option (Bool × Int) := if (l1.length : Int) > 4096 then (some (false, 2)) else ((spec_HoldsOK.f k a0_0 a0_1 l0_2 l1).bind fun t271 => (if t271 = true then ((spec_l07Peace.f k a0_0 a0_1 l0_2 l1).bind fun t272 => (some (t272, 0))) else (some (false, 1))))
set_option maxHeartbeats 8000000 in
set_option maxRecDepth 100000 in
theorem spec_Peaceful.calls (k : Nat) (a0_0 : Int) (a0_1 : Int) (A0_2 : Option Addr) (c0_2 : Nat) (l0_2 : List (S92)) (A1 : Option Addr) (c1 : Nat) (l1 : List (S55)) (r1 : Bool) (r2 : Int) (w : World) (hr0_2 : Kd.C k92 w A0_2 l0_2.length l0_2) (hc0_2 : l0_2.length ≤ c0_2) (hr1 : Kd.C k55 w A1 l1.length l1) (hc1 : l1.length ≤ c1) (h : spec_Peaceful.f k a0_0 a0_1 l0_2 l1 = some (r1, r2)) :
  Calls Try.prog 33 #[.agg #[.int .i64 a0_0, .int .i64 a0_1, .slice A0_2 l0_2.length c0_2], .slice A1 l1.length c1] w fun e w' => e = .returned (.tuple #[.bool r1, .int .i64 r2]) ∧ Below w.heap.size w w' := by
 have hu33 := Try.underlying33
 have HR0_2 := Aside0.mk hr0_2
 have HC0_2 := Aside0.mk hc0_2
 clear hr0_2 hc0_2
 have HR1 := Aside0.mk hr1
 have HC1 := Aside0.mk hc1
 clear hr1 hc1
 have HB := Aside0.mk (Below.refl w.heap.size w)
 have H : (if (l1.length : Int) > 4096 then (some (false, 2)) else ((spec_HoldsOK.f k a0_0 a0_1 l0_2 l1).bind fun t271 => (if t271 = true then ((spec_l07Peace.f k a0_0 a0_1 l0_2 l1).bind fun t272 => (some (t272, 0))) else (some (false, 1))))) = some (r1, r2) := h
 clear h
 have HC3 := Aside0.mk H
 clear H
 go_enter Try.func33, Try.ntmps33
 go_upto_if 8 with (first | ((with_reducible refine gate_dst (N := 2) rfl ?_); refine Xbox 2 #[.int .i64 a0_0, .int .i64 a0_1, .slice A0_2 l0_2.length c0_2] 33 ?_; intro gb270 hg w4 hbox hb; have BK270 := Aside0.mk (hbox); have GE270 := Xge hg Xi; replace HB := Aside0.mk (below_step Xi hb); clear hb hbox hg))
 have H := HC3.out
 clear HC3
 obtain ⟨c5, H⟩ | ⟨c5, H⟩ := Xiu H
 ·have c5b0 : decide (4096 < (l1.length : Int)) = true := decide_eq_true c5
  have c5b1 : decide (4096 < l1.length) = true := decide_eq_true (by omega)
  clear c5
  (first | rw [c5b0] | (simp only [i64_w, i32_w]; rw [c5b0]) | skip)
  simp only [Option.some.injEq, Prod.mk.injEq] at H
  obtain ⟨rfl, rfl⟩ := H
  go_wp2
  go_ret2
  exact ⟨Xe, Xi⟩
 ·have c5b0 : decide (4096 < (l1.length : Int)) = false := decide_eq_false c5
  have c5b1 : decide (4096 < l1.length) = false := decide_eq_false (by omega)
  clear c5
  (first | rw [c5b0] | (simp only [i64_w, i32_w]; rw [c5b0]) | skip)
  obtain ⟨t271, A6, H⟩ := Xbi H
  (try dsimp only at H)
  have HC7 := Aside0.mk H
  clear H
  obtain ⟨hcz8_0, hcz8_1, hcz8_2⟩ := Xc3 BK270
  go_upto_if 12 with (first | ((with_reducible refine gate_callee (f := 39) rfl ?_); refine Xgo 11 Try.func39 #[.agg #[.int .i64 a0_0, .int .i64 a0_1, .slice A0_2 l0_2.length c0_2], .slice A1 l1.length c1] ?_; (with_reducible refine (spec_HoldsOK.calls k a0_0 a0_1 _ _ l0_2 _ _ l1 t271 _ ?side1 ?side2 ?side3 ?side4 A6.out).mono ?_); (case side1 => exact Xc HR0_2); (case side2 => exact HC0_2.out); (case side3 => exact Xc HR1); (case side4 => exact HC1.out); rintro e w9 ⟨rfl, hb⟩; refine ⟨_, rfl, ?_⟩; replace BK270 := Xbb BK270 hb; replace HB := Aside0.mk (below_step Xi hb); clear hb))
  have H := HC7.out
  clear HC7
  by_cases c10 : t271 = true
  ·subst c10
   (first | rw [if_pos rfl] at H | skip)
   obtain ⟨t272, A11, H⟩ := Xbi H
   (try dsimp only at H)
   simp only [Option.some.injEq, Prod.mk.injEq] at H
   obtain ⟨rfl, rfl⟩ := H
   obtain ⟨hcz12_0, hcz12_1, hcz12_2⟩ := Xc3 BK270
   go_wp2_with (first | ((with_reducible refine gate_callee (f := 62) rfl ?_); refine Xgo 15 Try.func62 #[.agg #[.int .i64 a0_0, .int .i64 a0_1, .slice A0_2 l0_2.length c0_2], .slice A1 l1.length c1] ?_; (with_reducible refine (spec_l07Peace.calls k a0_0 a0_1 _ _ l0_2 _ _ l1 t272 _ ?side1 ?side2 ?side3 ?side4 A11.out).mono ?_); (case side1 => exact Xc HR0_2); (case side2 => exact HC0_2.out); (case side3 => exact Xc HR1); (case side4 => exact HC1.out); rintro e w13 ⟨rfl, hb⟩; refine ⟨_, rfl, ?_⟩; replace BK270 := Xbb BK270 hb; replace HB := Aside0.mk (below_step Xi hb); clear hb))
   go_ret2
   exact ⟨Xe, Xi⟩
  ·replace c10 := Bool.eq_false_iff.mpr c10
   subst c10
   (first | rw [if_neg (show ¬ (false = true) by decide)] at H | skip)
   simp only [Option.some.injEq, Prod.mk.injEq] at H
   obtain ⟨rfl, rfl⟩ := H
   go_wp2
   go_ret2
   exact ⟨Xe, Xi⟩

/-! ### impl_within: function 121 -/
def impl_within.f (a0 : Int) (a1 : Int) (a2 : Int) : Option (Bool) := if a0 ≥ a1 then (some (decide (a0 ≤ a2))) else (some false)
set_option maxHeartbeats 8000000 in
set_option maxRecDepth 100000 in
theorem impl_within.calls (a0 : Int) (a1 : Int) (a2 : Int) (r : Bool) (w : World) (h : impl_within.f a0 a1 a2 = some r) :
  Calls Try.prog 121 #[.int .i64 a0, .int .i64 a1, .int .i64 a2] w fun e w' => e = .returned (.bool r) ∧ Drawn0 w w' := by
 have H : (if a0 ≥ a1 then (some (decide (a0 ≤ a2))) else (some false)) = some r := h
 clear h
 obtain ⟨c4, H⟩ | ⟨c4, H⟩ := Xiu H
 ·have c4b0 : decide (a1 ≤ a0) = true := decide_eq_true c4
  clear c4
  obtain rfl := Option.some.inj H
  go_enter Try.func121, Try.ntmps121
  go_wp2
  go_ret
  exact ⟨Xr, Xdr⟩
 ·have c4b0 : decide (a1 ≤ a0) = false := decide_eq_false c4
  clear c4
  obtain rfl := Option.some.inj H
  go_enter Try.func121, Try.ntmps121
  go_wp2
  go_ret
  exact ⟨Xr, Xdr⟩

end Go.Proofs.Ytnanfenogmpemaa.XA
