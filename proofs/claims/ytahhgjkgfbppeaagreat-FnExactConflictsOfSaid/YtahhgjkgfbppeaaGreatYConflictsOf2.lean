/- Contracts of the program's functions: each Go function that is named below comes to what its Lean function says. Written by xprint.py (a program of this session's, over the kit's print). Conditions: each contract's own premises. -/
import Derived.Test.YtahhgjkgfbppeaaGreatYConflictsOf0
import Derived.Test.YtahhgjkgfbppeaaGreatYConflictsOf1
namespace Go.Proofs.YtahhgjkgfbppeaaGreat.XA
open Go.RowKit Go.Proofs.YtahhgjkgfbppeaaGreatW.PrintWords Go.Proofs.YtahhgjkgfbppeaaGreatW.PrintLast Go.Proofs.YtahhgjkgfbppeaaGreatW.PrintMore XW
attribute [local go_sem] max2_int min2_int max_two min_two max_three min_three max_four min_four   -- for this text's walks alone
set_option linter.unusedVariables false
set_option linter.unusedSimpArgs false

/-! ### spec_l02Deep: function 158 -/
mutual
def spec_l02Deep.l0 : Nat → Int → Int → List Int → Int → Int → Int → List (S113) → Option (Int)
 | 0, _, _, _, _, _, _, _ => none
 | k + 1, x2, x7, x8, x9, x110000, x110001, x110002 => if x9 < (x8.length : Int) then (if 0 ≤ x9 then ((spec_l02Deep.f k x110000 x110001 x110002 (rd x8 x9) (wrap64 (x2 - 1))).bind fun t113 => (spec_l02Deep.l0 k x2 (mx x7 t113) x8 (wrap64 (x9 + 1)) x110000 x110001 x110002)) else (none)) else (some (wrap64 (x7 + 1)))
def spec_l02Deep.f : Nat → Int → Int → List (S113) → Int → Int → Option (Int)
 | 0, _, _, _, _, _ => none
 | k + 1, a0_0, a0_1, l0_2, a1, a2 => if a2 = 0 then (some 1) else ((spec_l02At.f k a0_0 a0_1 l0_2 a1).bind fun t110 => (if 0 ≤ t110 then (if t110 < (l0_2.length : Int) then (spec_l02Deep.l0 k a2 0 ((rd_T113 l0_2 t110).f4) 0 a0_0 a0_1 l0_2) else (none)) else (none)))
end
def spec_l02Deep.T4 : Bool × List (List Nat × List Nat) := (true, [([], []), ([0], [0]), ([], []), ([], []), ([2, 3], [2, 3]), ([1, 4], [1, 4]), ([5], [5]), ([6], [6]), ([7, 4, 0, 1, 2, 3, 4, 5, 6, 7], [7])])
def spec_l02Deep.B4 : List Nat := [0, 1, 0, 0, 12, 31, 63, 127, 255]
theorem spec_l02Deep.tab4 : rtab .any (opsOf Tryz.f158 4) = spec_l02Deep.T4 := by kernel_rfl
theorem spec_l02Deep.bits4 : waitsOk spec_l02Deep.T4.2 spec_l02Deep.B4 = true := by kernel_rfl
def spec_l02Deep.T8 : Bool × List (List Nat × List Nat) := (true, [([], []), ([], []), ([], []), ([], []), ([2, 3], [2, 3]), ([4], [4]), ([], []), ([6], [6]), ([1, 5, 7], [1, 5, 7]), ([0, 8], [0, 8]), ([9, 8, 0, 1, 2, 3, 4, 5, 6, 7, 8, 9], [0, 9])])
def spec_l02Deep.B8 : List Nat := [0, 0, 0, 0, 12, 28, 0, 64, 254, 511, 1023]
theorem spec_l02Deep.tab8 : rtab .any (opsOf Tryz.f158 8) = spec_l02Deep.T8 := by kernel_rfl
theorem spec_l02Deep.bits8 : waitsOk spec_l02Deep.T8.2 spec_l02Deep.B8 = true := by kernel_rfl
set_option maxHeartbeats 8000000 in
set_option maxRecDepth 100000 in
theorem spec_l02Deep.calls (k : Nat) : ∀ (a0_0 : Int) (a0_1 : Int) (A0_2 : Option Addr) (c0_2 : Nat) (l0_2 : List (S113)) (a1 : Int) (a2 : Int) (r : Int) (w : World) (hr0_2 : Kd.C k113 w A0_2 l0_2.length l0_2) (hc0_2 : l0_2.length ≤ c0_2) (h : spec_l02Deep.f k a0_0 a0_1 l0_2 a1 a2 = some r),
  Calls Tryz.prog 158 #[.agg #[.int .i64 a0_0, .int .i64 a0_1, .slice A0_2 l0_2.length c0_2], .int .i64 a1, .int .i64 a2] w fun e w' => e = .returned (.int .i64 r) ∧ Below w.heap.size w w' := by
 induction k using Nat.strongRecOn with
 | _ k ih =>
 intro a0_0 a0_1 A0_2 c0_2 l0_2 a1 a2 r w hr0_2 hc0_2 h
 cases k with
 | zero => exact absurd h (by simp [spec_l02Deep.f])
 | succ k =>
 simp only [spec_l02Deep.f] at h
 have hu35 := Tryz.underlying35
 have HR0_2 := Aside0.mk hr0_2
 have HC0_2 := Aside0.mk hc0_2
 clear hr0_2 hc0_2
 have HB := Aside0.mk (Below.refl w.heap.size w)
 have H : (if a2 = 0 then (some 1) else ((spec_l02At.f k a0_0 a0_1 l0_2 a1).bind fun t110 => (if 0 ≤ t110 then (if t110 < (l0_2.length : Int) then (spec_l02Deep.l0 k a2 0 ((rd_T113 l0_2 t110).f4) 0 a0_0 a0_1 l0_2) else (none)) else (none)))) = some r := h
 clear h
 have HC4 := Aside0.mk H
 clear H
 go_enter Tryz.func158, Tryz.ntmps158
 go_upto_if 11 with (first | ((with_reducible refine gate_dst (N := 3) rfl ?_); refine Xbox 3 #[.int .i64 a0_0, .int .i64 a0_1, .slice A0_2 l0_2.length c0_2] 35 ?_; intro gb109 hg w5 hbox hb; have BK109 := Aside0.mk (hbox); have GE109 := Xge hg Xi; replace HB := Aside0.mk (below_step Xi hb); clear hb hbox hg))
 have H := HC4.out
 clear HC4
 obtain ⟨c6, H⟩ | ⟨c6, H⟩ := Xiu H
 ·have c6b0 : (a2 == 0) = true := beq_iff_eq.mpr c6
  have c6b1 : (a2 != 0) = false := bne_eq_false_iff_eq.mpr c6
  clear c6
  (first | rw [c6b0] | (simp only [i64_w, i32_w]; rw [c6b0]) | skip)
  obtain rfl := Option.some.inj H
  go_wp2
  go_ret
  exact ⟨Xe, Xi⟩
 ·have c6b0 : (a2 == 0) = false := beq_eq_false_iff_ne.mpr c6
  have c6b1 : (a2 != 0) = true := bne_iff_ne.mpr c6
  (first | rw [c6b0] | (simp only [i64_w, i32_w]; rw [c6b0]) | skip)
  obtain ⟨t110, A7, H⟩ := Xbi H
  (try dsimp only at H)
  obtain ⟨c8, H⟩ | ⟨c8, H⟩ := Xiu H
  ·have c8b0 : decide (0 ≤ t110) = true := decide_eq_true c8
   clear c8
   obtain ⟨c9b0, H⟩ := Xid H
   have H' := Aside0.mk H
   clear H
   try go_wp2_with (fail)
   replace BK109 := Aside0.mk (blk_drew BK109.out)
   replace HB := Aside0.mk (below_drew1 HB.out)
   have p111 : 0 ≤ (t110 : Int) := of_decide_eq_true Xa
   have q111 : t110 < (l0_2.length : Int) := of_decide_eq_true Xa
   obtain ⟨ad111, A111_4, c111_4, e111, hx111_0, hx111_1, hx111_2, hx111_3, hx111_4, hl111_4, hi111_4⟩ := at_T113 HR0_2.out t110 p111 q111
   have hw111_4 := hx111_4
   have hw111_3 := hx111_3
   have hw111_2 := hx111_2
   have hw111_1 := hx111_1
   have hw111_0 := hx111_0
   cases e111
   replace hx111_0 := Xm HB hx111_0
   replace hx111_1 := Xm HB hx111_1
   replace hx111_2 := Xm HB hx111_2
   replace hx111_3 := Xm HB hx111_3
   replace hx111_4 := Xm HB hx111_4
   have HR111_4 := Aside0.mk hi111_4
   have HC111_4 := Aside0.mk hl111_4
   clear hi111_4 hl111_4
   replace p111 := eq_true p111
   replace q111 := eq_true q111
   refine start_ (n := 9) (S := fun w' => w'.cell? ⟨gb109, 0, none⟩ = some (.int .i64 a0_0) ∧ w'.cell? ⟨gb109, 1, none⟩ = some (.int .i64 a0_1) ∧ w'.cell? ⟨gb109, 2, none⟩ = some (.slice (some ad111) l0_2.length c0_2) ∧ w'.cell? (ad111.add ((t110).toNat * 5)) = some (.int .i64 ((rd_T113 l0_2 t110).f0)) ∧ w'.cell? ⟨(ad111.add ((t110).toNat * 5)).block, (ad111.add ((t110).toNat * 5)).off + 1, none⟩ = some (.int .i64 ((rd_T113 l0_2 t110).f1)) ∧ w'.cell? ⟨(ad111.add ((t110).toNat * 5)).block, (ad111.add ((t110).toNat * 5)).off + 2, none⟩ = some (.int .i64 ((rd_T113 l0_2 t110).f2)) ∧ w'.cell? ⟨(ad111.add ((t110).toNat * 5)).block, (ad111.add ((t110).toNat * 5)).off + 3, none⟩ = some (.string ((rd_T113 l0_2 t110).f3)) ∧ w'.cell? ⟨(ad111.add ((t110).toNat * 5)).block, (ad111.add ((t110).toNat * 5)).off + 4, none⟩ = some (.slice A111_4 ((rd_T113 l0_2 t110).f4).length c111_4)) (ds := []) #[false, false, false, false, false, false, false, false, false] (by kernel_rfl) rfl rfl ⟨(blk_cell BK109.out 0).trans rfl, (blk_cell BK109.out 1).trans rfl, (blk_cell BK109.out 2).trans rfl, Xn hw111_0, Xn hw111_1, Xn hw111_2, Xn hw111_3, Xn hw111_4⟩ (fun hHeld => ?_); refine with_tabW spec_l02Deep.tab4 spec_l02Deep.bits4 (fun HT_ HW_ => ?_)
   generalize w5.drew = w10 at BK109 HB HR111_4 hx111_0 hx111_1 hx111_2 hx111_3 hx111_4 hHeld ⊢
   refine Xpu 0 12 (XW.bs 9 1) HT_.out ?_
   refine Xpu 3 15 (XW.bs 9 9) HT_.out ?_
   refine Xta 1 13 (XW.bs 9 11) HT_.out HW_.out hHeld ?_
   refine Xta 2 14 (XW.bs 9 15) HT_.out HW_.out hHeld ?_
   refine one_ (i := 4) (N := some 16) (XW.bs 9 31) rfl rfl (one_of HT_.out (by kernel_rfl)) (by decide) (fun K hK => ?_)
   refine goes_ Tryz.func89 (by kernel_rfl) rfl #[.agg #[.int .i64 a0_0, .int .i64 a0_1, .slice (some ad111) l0_2.length c0_2], .int .i64 a1] (by rfl) rfl rfl (by (try simp only [List.map_toArray, List.map_cons, List.map_nil]); first | done | rfl | (simp only [List.length_drop, List.length_take]; rfl)) ?_
   with_reducible refine (spec_l02At.calls k a0_0 a0_1 _ _ l0_2 a1 t110 _ ?side1 ?side2 A7.out).mono ?_
   (case side1 => exact Xc HR0_2)
   (case side2 => exact HC0_2.out)
   rintro e w11 ⟨rfl, hb⟩
   refine ⟨_, rfl, ?_⟩
   replace BK109 := Xbb BK109 hb
   replace HB := Aside0.mk (below_step Xi hb)
   (try clear hb)
   (try clear hb2)
   (try clear hk)
   (try clear hi)
   refine hK.out _ _ ⟨(blk_cell BK109.out 0).trans rfl, (blk_cell BK109.out 1).trans rfl, (blk_cell BK109.out 2).trans rfl, Xn hw111_0, Xn hw111_1, Xn hw111_2, Xn hw111_3, Xn hw111_4⟩ (fun hHeld => ?_)
   clear hK K
   refine Xno ?_
   refine Xpu 5 17 (XW.bs 9 63) HT_.out ?_
   refine Xpu 6 18 (XW.bs 9 127) HT_.out ?_
   refine Xta 7 19 (XW.bs 9 255) HT_.out HW_.out hHeld ?_
   refine Xpu 8 8 (XW.bs 9 511) HT_.out ?_
   refine done_ (done_of HT_.out (by kernel_rfl)) ?_
   try go_wp2_with (fail)
   go_loopg [7, 9] k (fun kq v7 v9 w' => ∃ (x7_1 : Int) (x9_1 : Int), v7 = .int .i64 x7_1 ∧ v9 = .int .i64 x9_1 ∧ Aside0 (spec_l02Deep.l0 kq a2 x7_1 ((rd_T113 l0_2 t110).f4) x9_1 a0_0 a0_1 l0_2 = some r) ∧ Aside0 (kq ≤ k) ∧ Aside0 (w'.heap[gb109]? = some (.cells #[.int .i64 a0_0, .int .i64 a0_1, (.slice (some ad111) l0_2.length c0_2)] 35 (0, 0))) ∧ Aside0 (Below w.heap.size w w'))
   case atStart => exact ⟨(0), (0), Xr, Xr, H', Xkr, BK109, ⟨Xi⟩⟩
   case round =>
    clear H'
    (try clear c6); (try clear c6b0); (try clear c6b1); (try clear c8); (try clear c8b0); (try clear c9); (try clear c9b0); (try clear hx111_0); (try clear hx111_1); (try clear hx111_2); (try clear hx111_3); (try clear hx111_4); (try clear p111); (try clear q111)
    obtain ⟨x7_1, x9_1, rfl, rfl, HA, HK1, BK109, HB⟩ := hrel
    cases gk with
    | zero => cases HA.out
    | succ k1 =>
     have H := HA.out
     clear HA
     simp only [spec_l02Deep.l0] at H
     obtain ⟨c12b0, H⟩ | ⟨c12b0, H⟩ := Xit H
     ·obtain ⟨c13b0, H⟩ := Xid H
      obtain ⟨t113, A14, H⟩ := Xbi H
      (try dsimp only at H)
      obtain ⟨ji15, hji15⟩ : ∃ j_ : Int, (mx x7_1 t113) = j_ := ⟨_, rfl⟩
      replace H : (spec_l02Deep.l0 k1 a2 ji15 ((rd_T113 l0_2 t110).f4) (wrap64 (x9_1 + 1)) a0_0 a0_1 l0_2) = some r := by first | (rw [hji15] at H; exact H) | (simp only [hji15] at H ⊢; exact H)
      (try rw [hji15] at A14)
      have hji15_ : (if x7_1 < t113 then t113 else x7_1) = ji15 := hji15
      have H' := Aside0.mk H
      clear H
      try go_wp2_with (fail)
      replace BK109 := Aside0.mk (blk_drew BK109.out)
      replace HB := Aside0.mk (below_drew1 HB.out)
      have p112 : 0 ≤ (x9_1 : Int) := of_decide_eq_true Xa
      have q112 : x9_1 < (((rd_T113 l0_2 t110).f4).length : Int) := of_decide_eq_true Xa
      obtain ⟨ad112, e112, hx112_0⟩ := Kd.at_int HR111_4.out x9_1 p112 q112
      have hw112_0 := hx112_0
      cases e112
      replace hx112_0 := Xm HB hx112_0
      replace p112 := eq_true p112
      replace q112 := eq_true q112
      refine start_ (n := 11) (S := fun w' => w'.cell? ⟨gb109, 0, none⟩ = some (.int .i64 a0_0) ∧ w'.cell? ⟨gb109, 1, none⟩ = some (.int .i64 a0_1) ∧ w'.cell? ⟨gb109, 2, none⟩ = some (.slice (some ad111) l0_2.length c0_2) ∧ w'.cell? (ad112.add (x9_1).toNat) = some (.int .i64 (rd ((rd_T113 l0_2 t110).f4) x9_1))) (ds := []) #[false, false, false, false, false, false, false, false, false, false, false] (by kernel_rfl) rfl rfl ⟨(blk_cell BK109.out 0).trans rfl, (blk_cell BK109.out 1).trans rfl, (blk_cell BK109.out 2).trans rfl, Xn hw112_0⟩ (fun hHeld => ?_); refine with_tabW spec_l02Deep.tab8 spec_l02Deep.bits8 (fun HT_ HW_ => ?_)
      generalize wr.drew = w16 at BK109 HB hx112_0 hHeld ⊢
      refine Xpu 0 26 (XW.bs 11 1) HT_.out ?_
      refine Xpu 2 28 (XW.bs 11 5) HT_.out ?_
      refine Xpu 3 29 (XW.bs 11 13) HT_.out ?_
      refine Xpu 4 30 (XW.bs 11 29) HT_.out ?_
      refine Xpu 6 32 (XW.bs 11 93) HT_.out ?_
      refine Xpu 7 33 (XW.bs 11 221) HT_.out ?_
      refine Xta 1 27 (XW.bs 11 223) HT_.out HW_.out hHeld ?_
      refine Xta 5 31 (XW.bs 11 255) HT_.out HW_.out hHeld ?_
      refine one_ (i := 8) (N := some 34) (XW.bs 11 511) rfl rfl (one_of HT_.out (by kernel_rfl)) (by decide) (fun K hK => ?_)
      refine goes_ Tryz.func158 (by kernel_rfl) rfl #[.agg #[.int .i64 a0_0, .int .i64 a0_1, .slice (some ad111) l0_2.length c0_2], .int .i64 (rd ((rd_T113 l0_2 t110).f4) x9_1), .int .i64 (wrap64 (a2 - 1))] (by rfl) rfl rfl (by (try simp only [List.map_toArray, List.map_cons, List.map_nil]); first | done | rfl | (simp only [List.length_drop, List.length_take]; rfl)) ?_
      with_reducible refine (ih k1 (by have := HK1.out; omega) a0_0 a0_1 _ _ l0_2 (rd ((rd_T113 l0_2 t110).f4) x9_1) (wrap64 (a2 - 1)) t113 _ ?side1 ?side2 A14.out).mono ?_
      (case side1 => exact Xc HR0_2)
      (case side2 => exact HC0_2.out)
      rintro e w17 ⟨rfl, hb⟩
      refine ⟨_, rfl, ?_⟩
      replace BK109 := Xbb BK109 hb
      replace HB := Aside0.mk (below_step Xi hb)
      (try clear hb)
      (try clear hb2)
      (try clear hk)
      (try clear hi)
      refine hK.out _ _ ⟨(blk_cell BK109.out 0).trans rfl, (blk_cell BK109.out 1).trans rfl, (blk_cell BK109.out 2).trans rfl, Xn hw112_0⟩ (fun hHeld => ?_)
      clear hK K
      refine Xno ?_
      refine Xpu 9 35 (XW.bs 11 1023) HT_.out ?_
      refine Xpu 10 7 (XW.bs 11 2047) HT_.out ?_
      refine done_ (done_of HT_.out (by kernel_rfl)) ?_
      try go_wp2_with (fail)
      go_roundg k1
      case measure => have := HK1.out; omega
      case rel => exact ⟨(ji15), (wrap64 (x9_1 + 1)), (by first | rfl | (simp; done) | (simp only [← hji15] <;> (first | rfl | simp)) | (simp [*]; done)), Xr, H', Xk1, BK109, ⟨Xi⟩⟩
     ·obtain rfl := Option.some.inj H
      go_wp2
      go_ret
      exact ⟨Xe, Xi⟩
  ·exact absurd H (by simp)

/-! ### spec_l02Has: function 104 -/
def spec_l02Has.l0 : Nat → List Int → Int → Int → Option (Bool)
 | 0, _, _, _ => none
 | k + 1, x0, x1, x5 => if x5 < (x0.length : Int) then (if 0 ≤ x5 then (if (rd x0 x5) = x1 then (some true) else (spec_l02Has.l0 k x0 x1 (wrap64 (x5 + 1)))) else (none)) else (some false)
def spec_l02Has.f (k : Nat) (l0 : List Int) (a1 : Int) : Option (Bool) := spec_l02Has.l0 k l0 a1 0
set_option maxHeartbeats 8000000 in
set_option maxRecDepth 100000 in
theorem spec_l02Has.calls (k : Nat) (A0 : Option Addr) (c0 : Nat) (l0 : List Int) (a1 : Int) (r : Bool) (w : World) (hr0 : Kd.C (Kd.int .i64) w A0 l0.length l0) (hc0 : l0.length ≤ c0) (h : spec_l02Has.f k l0 a1 = some r) :
  Calls Tryz.prog 104 #[.slice A0 l0.length c0, .int .i64 a1] w fun e w' => e = .returned (.bool r) ∧ Drawn0 w w' := by
 have HR0 := Aside0.mk hr0
 have HC0 := Aside0.mk hc0
 clear hr0 hc0
 have H : (spec_l02Has.l0 k l0 a1 0) = some r := h
 clear h
 have H' := Aside0.mk H
 clear H
 go_enter Tryz.func104, Tryz.ntmps104
 go_wp2
 go_loopg [5] k (fun kq v5 w' => ∃ (x5_1 : Int), v5 = .int .i64 x5_1 ∧ Aside0 (spec_l02Has.l0 kq l0 a1 x5_1 = some r) ∧ Aside0 (kq ≤ k) ∧ Drawn0 w w')
 case atStart => exact ⟨(0), Xr, H', Xkr, by repeat (first | exact Drawn0.refl _ | apply Drawn0.step)⟩
 case round =>
  clear H'
  obtain ⟨x5_1, rfl, HA, HK1, ⟨m1, rfl⟩⟩ := hrel
  cases gk with
  | zero => cases HA.out
  | succ k1 =>
   have H := HA.out
   clear HA
   simp only [spec_l02Has.l0] at H
   obtain ⟨c3b0, H⟩ | ⟨c3b0, H⟩ := Xit H
   ·obtain ⟨c4b0, H⟩ := Xid H
    obtain ⟨c5, H⟩ | ⟨c5, H⟩ := Xiu H
    ·have c5b0 : ((rd l0 x5_1) == a1) = true := beq_iff_eq.mpr c5
     have c5b1 : ((rd l0 x5_1) != a1) = false := bne_eq_false_iff_eq.mpr c5
     clear c5
     obtain rfl := Option.some.inj H
     have p114 : 0 ≤ (x5_1 : Int) := of_decide_eq_true Xa
     have q114 : x5_1 < (l0.length : Int) := of_decide_eq_true Xa
     obtain ⟨ad114, e114, hx114_0⟩ := Kd.at_int HR0.out x5_1 p114 q114
     cases e114
     replace p114 := eq_true p114
     replace q114 := eq_true q114
     go_wp2
     go_ret
     exact ⟨Xr, Xdr⟩
    ·have c5b0 : ((rd l0 x5_1) == a1) = false := beq_eq_false_iff_ne.mpr c5
     have c5b1 : ((rd l0 x5_1) != a1) = true := bne_iff_ne.mpr c5
     have H' := Aside0.mk H
     clear H
     have p114 : 0 ≤ (x5_1 : Int) := of_decide_eq_true Xa
     have q114 : x5_1 < (l0.length : Int) := of_decide_eq_true Xa
     obtain ⟨ad114, e114, hx114_0⟩ := Kd.at_int HR0.out x5_1 p114 q114
     cases e114
     replace p114 := eq_true p114
     replace q114 := eq_true q114
     go_wp2
     go_roundg k1
     case measure => have := HK1.out; omega
     case rel => exact ⟨(wrap64 (x5_1 + 1)), Xr, H', Xk1, by repeat (first | exact Drawn0.refl _ | apply Drawn0.step)⟩
   ·obtain rfl := Option.some.inj H
    go_wp2
    go_ret
    exact ⟨Xr, Xdr⟩

/-! ### spec_l02Kind: function 197 -/
def spec_l02Kind.f (a0 : Int) : Option (Bool) := (spec_l01In.f a0 1 8).bind fun t115 => (some t115)
set_option maxHeartbeats 8000000 in
set_option maxRecDepth 100000 in
theorem spec_l02Kind.calls (a0 : Int) (r : Bool) (w : World) (h : spec_l02Kind.f a0 = some r) :
  Calls Tryz.prog 197 #[.int .i64 a0] w fun e w' => e = .returned (.bool r) ∧ Drawn0 w w' := by
 have H : ((spec_l01In.f a0 1 8).bind fun t115 => (some t115)) = some r := h
 clear h
 obtain ⟨t115, A2, H⟩ := Xbi H
 (try dsimp only at H)
 obtain rfl := Option.some.inj H
 go_enter Tryz.func197, Tryz.ntmps197
 go_wp2_with (first | ((with_reducible refine gate_callee (f := 88) rfl ?_); refine Xgo 4 Tryz.func88 #[.int .i64 a0, .int .i64 1, .int .i64 8] ?_; (with_reducible refine (spec_l01In.calls a0 1 8 t115 _ A2.out).mono ?_); rintro e w' ⟨rfl, ⟨nd, rfl⟩⟩; refine ⟨_, rfl, ?_⟩))
 go_ret
 exact ⟨Xr, Xdr⟩

/-! ### spec_l02Node: function 188 -/
def spec_l02Node.f (a0_0 : Int) (a0_1 : Int) (a0_2 : Int) (a0_3 : ByteArray) (l0_4 : List Int) (a1 : Int) : Option (Bool) := (spec_l01In.f a0_0 1 (wrap64 (a1 - 1))).bind fun t117 => (if t117 = true then ((spec_l02Kind.f a0_1).bind fun t118 => (if t118 = true then ((spec_l01In.f a0_2 0 99).bind fun t119 => (if t119 = true then (if (a0_3.size : Int) ≤ 20 then (some (decide ((l0_4.length : Int) ≤ 12))) else (some false)) else (some false))) else (some false))) else (some false))
set_option maxHeartbeats 8000000 in
set_option maxRecDepth 100000 in
theorem spec_l02Node.calls (a0_0 : Int) (a0_1 : Int) (a0_2 : Int) (a0_3 : ByteArray) (A0_4 : Option Addr) (c0_4 : Nat) (l0_4 : List Int) (a1 : Int) (r : Bool) (w : World) (hr0_4 : Kd.C (Kd.int .i64) w A0_4 l0_4.length l0_4) (hc0_4 : l0_4.length ≤ c0_4) (h : spec_l02Node.f a0_0 a0_1 a0_2 a0_3 l0_4 a1 = some r) :
  Calls Tryz.prog 188 #[.agg #[.int .i64 a0_0, .int .i64 a0_1, .int .i64 a0_2, .string a0_3, .slice A0_4 l0_4.length c0_4], .int .i64 a1] w fun e w' => e = .returned (.bool r) ∧ Below w.heap.size w w' := by
 have hu113 := Tryz.underlying113
 have HR0_4 := Aside0.mk hr0_4
 have HC0_4 := Aside0.mk hc0_4
 clear hr0_4 hc0_4
 have HB := Aside0.mk (Below.refl w.heap.size w)
 have H : ((spec_l01In.f a0_0 1 (wrap64 (a1 - 1))).bind fun t117 => (if t117 = true then ((spec_l02Kind.f a0_1).bind fun t118 => (if t118 = true then ((spec_l01In.f a0_2 0 99).bind fun t119 => (if t119 = true then (if (a0_3.size : Int) ≤ 20 then (some (decide ((l0_4.length : Int) ≤ 12))) else (some false)) else (some false))) else (some false))) else (some false))) = some r := h
 clear h
 have HC3 := Aside0.mk H
 clear H
 go_enter Tryz.func188, Tryz.ntmps188
 go_upto_region 1 with (first | ((with_reducible refine gate_dst (N := 2) rfl ?_); (try (refine gate_guard (by rfl) ?_; dsimp only)); refine Xbox 2 #[.int .i64 a0_0, .int .i64 a0_1, .int .i64 a0_2, .string a0_3, .slice A0_4 l0_4.length c0_4] 113 ?_; intro gb116 hg w4 hbox hb; have BK116 := Aside0.mk (hbox); have GE116 := Xge hg Xi; replace HB := Aside0.mk (below_step Xi hb); clear hb hbox hg))
 have H := HC3.out
 clear HC3
 obtain ⟨t117, A5, H⟩ := Xbi H
 (try dsimp only at H)
 by_cases c6 : t117 = true
 ·subst c6
  (first | rw [if_pos rfl] at H | skip)
  obtain ⟨t118, A7, H⟩ := Xbi H
  (try dsimp only at H)
  by_cases c8 : t118 = true
  ·subst c8
   (first | rw [if_pos rfl] at H | skip)
   obtain ⟨t119, A9, H⟩ := Xbi H
   (try dsimp only at H)
   by_cases c10 : t119 = true
   ·subst c10
    (first | rw [if_pos rfl] at H | skip)
    obtain ⟨c11, H⟩ | ⟨c11, H⟩ := Xiu H
    ·have c11b0 : decide ((a0_3.size : Int) ≤ 20) = true := decide_eq_true c11
     have c11b1 : decide (a0_3.size ≤ 20) = true := decide_eq_true (by omega)
     clear c11
     obtain rfl := Option.some.inj H
     obtain ⟨hcz12_0, hcz12_1, hcz12_2, hcz12_3, hcz12_4⟩ := Xc5 BK116
     go_wp2_with (first | ((with_reducible refine gate_callee (f := 88) rfl ?_); refine Xgo 9 Tryz.func88 #[.int .i64 a0_0, .int .i64 1, .int .i64 (wrap64 (a1 - 1))] ?_; (with_reducible refine (spec_l01In.calls a0_0 1 (wrap64 (a1 - 1)) true _ A5.out).mono ?_); rintro e w' ⟨rfl, ⟨nd, rfl⟩⟩; refine ⟨_, rfl, ?_⟩) | (go_at_call 197; (with_reducible refine (spec_l02Kind.calls a0_1 true _ A7.out).mono ?_); rintro e w' ⟨rfl, ⟨nd, rfl⟩⟩) | (go_at_call 88; (with_reducible refine (spec_l01In.calls a0_2 0 99 true _ A9.out).mono ?_); rintro e w' ⟨rfl, ⟨nd, rfl⟩⟩))
     go_ret
     exact ⟨Xe, Xi⟩
    ·have c11b0 : decide ((a0_3.size : Int) ≤ 20) = false := decide_eq_false c11
     have c11b1 : decide (a0_3.size ≤ 20) = false := decide_eq_false (by omega)
     clear c11
     obtain rfl := Option.some.inj H
     obtain ⟨hcz13_0, hcz13_1, hcz13_2, hcz13_3, hcz13_4⟩ := Xc5 BK116
     go_wp2_with (first | ((with_reducible refine gate_callee (f := 88) rfl ?_); refine Xgo 9 Tryz.func88 #[.int .i64 a0_0, .int .i64 1, .int .i64 (wrap64 (a1 - 1))] ?_; (with_reducible refine (spec_l01In.calls a0_0 1 (wrap64 (a1 - 1)) true _ A5.out).mono ?_); rintro e w' ⟨rfl, ⟨nd, rfl⟩⟩; refine ⟨_, rfl, ?_⟩) | (go_at_call 197; (with_reducible refine (spec_l02Kind.calls a0_1 true _ A7.out).mono ?_); rintro e w' ⟨rfl, ⟨nd, rfl⟩⟩) | (go_at_call 88; (with_reducible refine (spec_l01In.calls a0_2 0 99 true _ A9.out).mono ?_); rintro e w' ⟨rfl, ⟨nd, rfl⟩⟩))
     go_ret
     exact ⟨Xe, Xi⟩
   ·replace c10 := Bool.eq_false_iff.mpr c10
    subst c10
    (first | rw [if_neg (show ¬ (false = true) by decide)] at H | skip)
    obtain rfl := Option.some.inj H
    obtain ⟨hcz14_0, hcz14_1, hcz14_2, hcz14_3, hcz14_4⟩ := Xc5 BK116
    go_wp2_with (first | ((with_reducible refine gate_callee (f := 88) rfl ?_); refine Xgo 9 Tryz.func88 #[.int .i64 a0_0, .int .i64 1, .int .i64 (wrap64 (a1 - 1))] ?_; (with_reducible refine (spec_l01In.calls a0_0 1 (wrap64 (a1 - 1)) true _ A5.out).mono ?_); rintro e w' ⟨rfl, ⟨nd, rfl⟩⟩; refine ⟨_, rfl, ?_⟩) | (go_at_call 197; (with_reducible refine (spec_l02Kind.calls a0_1 true _ A7.out).mono ?_); rintro e w' ⟨rfl, ⟨nd, rfl⟩⟩) | (go_at_call 88; (with_reducible refine (spec_l01In.calls a0_2 0 99 false _ A9.out).mono ?_); rintro e w' ⟨rfl, ⟨nd, rfl⟩⟩))
    go_ret
    exact ⟨Xe, Xi⟩
  ·replace c8 := Bool.eq_false_iff.mpr c8
   subst c8
   (first | rw [if_neg (show ¬ (false = true) by decide)] at H | skip)
   obtain rfl := Option.some.inj H
   obtain ⟨hcz15_0, hcz15_1, hcz15_2, hcz15_3, hcz15_4⟩ := Xc5 BK116
   go_wp2_with (first | ((with_reducible refine gate_callee (f := 88) rfl ?_); refine Xgo 9 Tryz.func88 #[.int .i64 a0_0, .int .i64 1, .int .i64 (wrap64 (a1 - 1))] ?_; (with_reducible refine (spec_l01In.calls a0_0 1 (wrap64 (a1 - 1)) true _ A5.out).mono ?_); rintro e w' ⟨rfl, ⟨nd, rfl⟩⟩; refine ⟨_, rfl, ?_⟩) | (go_at_call 197; (with_reducible refine (spec_l02Kind.calls a0_1 false _ A7.out).mono ?_); rintro e w' ⟨rfl, ⟨nd, rfl⟩⟩))
   go_ret
   exact ⟨Xe, Xi⟩
 ·replace c6 := Bool.eq_false_iff.mpr c6
  subst c6
  (first | rw [if_neg (show ¬ (false = true) by decide)] at H | skip)
  obtain rfl := Option.some.inj H
  obtain ⟨hcz16_0, hcz16_1, hcz16_2, hcz16_3, hcz16_4⟩ := Xc5 BK116
  go_wp2_with (first | ((with_reducible refine gate_callee (f := 88) rfl ?_); refine Xgo 9 Tryz.func88 #[.int .i64 a0_0, .int .i64 1, .int .i64 (wrap64 (a1 - 1))] ?_; (with_reducible refine (spec_l01In.calls a0_0 1 (wrap64 (a1 - 1)) false _ A5.out).mono ?_); rintro e w' ⟨rfl, ⟨nd, rfl⟩⟩; refine ⟨_, rfl, ?_⟩))
  go_ret
  exact ⟨Xe, Xi⟩

end Go.Proofs.YtahhgjkgfbppeaaGreat.XA
