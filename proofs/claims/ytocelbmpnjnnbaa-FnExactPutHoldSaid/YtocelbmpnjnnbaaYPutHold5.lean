/- Contracts of the program's functions: each Go function that is named below comes to what its Lean function says. Written by xprint.py (a program of this session's, over the kit's print). Conditions: each contract's own premises. -/
import Derived.Test.YtocelbmpnjnnbaaYPutHold0
import Derived.Test.YtocelbmpnjnnbaaYPutHold4
namespace Go.Proofs.Ytocelbmpnjnnbaa.XA
open Go.RowKit Go.Proofs.YtocelbmpnjnnbaaW.PrintWords Go.Proofs.YtocelbmpnjnnbaaW.PrintLast Go.Proofs.YtocelbmpnjnnbaaW.PrintMore XW
attribute [local go_sem] max2_int min2_int max_two min_two max_three min_three max_four min_four   -- for this text's walks alone
set_option linter.unusedVariables false
set_option linter.unusedSimpArgs false

/-! ### spec_l07Holds: function 177 -/
def spec_l07Holds.l0 : Nat → List (S38) → Int → Int → Int → List (S64) → Option (Bool)
 | 0, _, _, _, _, _ => none
 | k + 1, x1, x5, x160000, x160001, x160002 => if x5 < (x1.length : Int) then (if 0 ≤ x5 then ((spec_l07Hold.f k x160000 x160001 x160002 ((rd_T38 x1 x5).f0) ((rd_T38 x1 x5).f1) ((rd_T38 x1 x5).f2)).bind fun t161 => (if t161 = true then (if x5 > 0 then (if 0 ≤ (wrap64 (x5 - 1)) then (if (wrap64 (x5 - 1)) < (x1.length : Int) then ((spec_l07Less.f ((rd_T38 x1 (wrap64 (x5 - 1))).f0) ((rd_T38 x1 (wrap64 (x5 - 1))).f1) ((rd_T38 x1 (wrap64 (x5 - 1))).f2) ((rd_T38 x1 x5).f0) ((rd_T38 x1 x5).f1) ((rd_T38 x1 x5).f2)).bind fun t164 => (if t164 = true then (spec_l07Holds.l0 k x1 (wrap64 (x5 + 1)) x160000 x160001 x160002) else (some false))) else (none)) else (none)) else (spec_l07Holds.l0 k x1 (wrap64 (x5 + 1)) x160000 x160001 x160002)) else (some false))) else (none)) else (some true)
def spec_l07Holds.f (k : Nat) (a0_0 : Int) (a0_1 : Int) (l0_2 : List (S64)) (l1 : List (S38)) : Option (Bool) := if (l1.length : Int) > 30 then (some false) else (spec_l07Holds.l0 k l1 0 a0_0 a0_1 l0_2)
def spec_l07Holds.T6 : Bool × List (List Nat × List Nat) := (true, [([], []), ([], []), ([], []), ([1, 2], [1, 2]), ([3], [3]), ([0, 4], [0, 4]), ([5], [5]), ([6, 5], [6]), ([7], [7]), ([8, 7], [7, 8]), ([9, 7, 7], [7, 9]), ([10], [10]), ([10], [10]), ([12, 10], [10, 12]), ([11, 13, 10], [10, 11, 13]), ([14, 10], [10, 14]), ([10], [10]), ([10], [10]), ([16, 17, 10], [10, 16, 17]), ([18, 10], [10, 18]), ([15, 19, 10, 10], [10, 15, 19]), ([20, 10], [10, 20]), ([10, 21, 7], [7, 10, 21]), ([7, 22], [7, 22])])
def spec_l07Holds.B6 : List Nat := [0, 0, 0, 6, 14, 31, 63, 127, 255, 511, 1023, 2047, 2047, 6143, 16383, 32767, 2047, 2047, 198655, 460799, 1048575, 2097151, 4194303, 8388607]
theorem spec_l07Holds.tab6 : rtab .any (opsOf Try.f177 6) = spec_l07Holds.T6 := by kernel_rfl
theorem spec_l07Holds.bits6 : waitsOk spec_l07Holds.T6.2 spec_l07Holds.B6 = true := by kernel_rfl
set_option maxHeartbeats 8000000 in
set_option maxRecDepth 100000 in
theorem spec_l07Holds.calls (k : Nat) (a0_0 : Int) (a0_1 : Int) (A0_2 : Option Addr) (c0_2 : Nat) (l0_2 : List (S64)) (A1 : Option Addr) (c1 : Nat) (l1 : List (S38)) (r : Bool) (w : World) (hr0_2 : Kd.C k64 w A0_2 l0_2.length l0_2) (hc0_2 : l0_2.length ≤ c0_2) (hr1 : Kd.C k38 w A1 l1.length l1) (hc1 : l1.length ≤ c1) (h : spec_l07Holds.f k a0_0 a0_1 l0_2 l1 = some r) :
  Calls Try.prog 177 #[.agg #[.int .i64 a0_0, .int .i64 a0_1, .slice A0_2 l0_2.length c0_2], .slice A1 l1.length c1] w fun e w' => e = .returned (.bool r) ∧ Below w.heap.size w w' := by
 have hu35 := Try.underlying35
 have hu38 := Try.underlying38
 have HR0_2 := Aside0.mk hr0_2
 have HC0_2 := Aside0.mk hc0_2
 clear hr0_2 hc0_2
 have HR1 := Aside0.mk hr1
 have HC1 := Aside0.mk hc1
 clear hr1 hc1
 have HB := Aside0.mk (Below.refl w.heap.size w)
 have H : (if (l1.length : Int) > 30 then (some false) else (spec_l07Holds.l0 k l1 0 a0_0 a0_1 l0_2)) = some r := h
 clear h
 have HC3 := Aside0.mk H
 clear H
 go_enter Try.func177, Try.ntmps177
 go_upto_if 8 with (first | ((with_reducible refine gate_dst (N := 2) rfl ?_); refine Xbox 2 #[.int .i64 a0_0, .int .i64 a0_1, .slice A0_2 l0_2.length c0_2] 35 ?_; intro gb159 hg w4 hbox hb; have BK159 := Aside0.mk (hbox); have GE159 := Xge hg Xi; replace HB := Aside0.mk (below_step Xi hb); clear hb hbox hg))
 have H := HC3.out
 clear HC3
 obtain ⟨c5, H⟩ | ⟨c5, H⟩ := Xiu H
 ·have c5b0 : decide (30 < (l1.length : Int)) = true := decide_eq_true c5
  have c5b1 : decide (30 < l1.length) = true := decide_eq_true (by omega)
  clear c5
  (first | rw [c5b0] | (simp only [i64_w, i32_w]; rw [c5b0]) | skip)
  obtain rfl := Option.some.inj H
  go_wp2
  go_ret
  exact ⟨Xe, Xi⟩
 ·have c5b0 : decide (30 < (l1.length : Int)) = false := decide_eq_false c5
  have c5b1 : decide (30 < l1.length) = false := decide_eq_false (by omega)
  clear c5
  (first | rw [c5b0] | (simp only [i64_w, i32_w]; rw [c5b0]) | skip)
  have H' := Aside0.mk H
  clear H
  go_wp2
  go_loopg [5] k (fun kq v5 w' => ∃ (x5_1 : Int), v5 = .int .i64 x5_1 ∧ Aside0 (spec_l07Holds.l0 kq l1 x5_1 a0_0 a0_1 l0_2 = some r) ∧ Aside0 (kq ≤ k) ∧ Aside0 (w'.heap[gb159]? = some (.cells #[.int .i64 a0_0, .int .i64 a0_1, (.slice A0_2 l0_2.length c0_2)] 35 (0, 0))) ∧ Aside0 (Below w.heap.size w w'))
  case atStart => exact ⟨(0), Xr, H', Xkr, BK159, ⟨Xi⟩⟩
  case round =>
   clear H'
   (try clear c1); (try clear c5); (try clear c5b0); (try clear c5b1)
   obtain ⟨x5_1, rfl, HA, HK1, BK159, HB⟩ := hrel
   cases gk with
   | zero => cases HA.out
   | succ k1 =>
    have H := HA.out
    clear HA
    simp only [spec_l07Holds.l0] at H
    obtain ⟨c6b0, H⟩ | ⟨c6b0, H⟩ := Xit H
    ·obtain ⟨c7b0, H⟩ := Xid H
     obtain ⟨t161, A8, H⟩ := Xbi H
     (try dsimp only at H)
     by_cases c9 : t161 = true
     ·subst c9
      (first | rw [if_pos rfl] at H | skip)
      obtain ⟨c10, H⟩ | ⟨c10, H⟩ := Xiu H
      ·have c10b0 : decide (0 < x5_1) = true := decide_eq_true c10
       clear c10
       obtain ⟨ji11, hji11⟩ : ∃ j_ : Int, (wrap64 (x5_1 - 1)) = j_ := ⟨_, rfl⟩
       replace H : (if 0 ≤ (ji11) then (if (ji11) < (l1.length : Int) then ((spec_l07Less.f ((rd_T38 l1 (ji11)).f0) ((rd_T38 l1 (ji11)).f1) ((rd_T38 l1 (ji11)).f2) ((rd_T38 l1 x5_1).f0) ((rd_T38 l1 x5_1).f1) ((rd_T38 l1 x5_1).f2)).bind fun t164 => (if t164 = true then (spec_l07Holds.l0 k1 l1 (wrap64 (x5_1 + 1)) a0_0 a0_1 l0_2) else (some false))) else (none)) else (none)) = some r := by first | (rw [hji11] at H; exact H) | (simp only [hji11] at H ⊢; exact H)
       (try rw [hji11] at A8)
       have hji11w : (IntKind.i64.wrap (x5_1 - 1)) = ji11 := (i64_w _).trans hji11
       obtain ⟨c12b0, H⟩ := Xid H
       obtain ⟨c13b0, H⟩ := Xid H
       obtain ⟨t164, A14, H⟩ := Xbi H
       (try dsimp only at H)
       have HC15 := Aside0.mk H
       clear H
       try go_wp2_with (fail)
       replace BK159 := Aside0.mk (blk_drew BK159.out)
       replace HB := Aside0.mk (below_drew1 HB.out)
       have p160 : 0 ≤ (x5_1 : Int) := of_decide_eq_true Xa
       have q160 : x5_1 < (l1.length : Int) := of_decide_eq_true Xa
       obtain ⟨ad160, e160, hx160_0, hx160_1, hx160_2⟩ := at_T38 HR1.out x5_1 p160 q160
       have hw160_2 := hx160_2
       have hw160_1 := hx160_1
       have hw160_0 := hx160_0
       cases e160
       replace hx160_0 := Xm HB hx160_0
       replace hx160_1 := Xm HB hx160_1
       replace hx160_2 := Xm HB hx160_2
       replace p160 := eq_true p160
       replace q160 := eq_true q160
       have p162 : 0 ≤ ((ji11) : Int) := of_decide_eq_true Xa
       have q162 : (ji11) < (l1.length : Int) := of_decide_eq_true Xa
       obtain ⟨ad162, e162, hx162_0, hx162_1, hx162_2⟩ := at_T38 HR1.out (ji11) p162 q162
       have hw162_2 := hx162_2
       have hw162_1 := hx162_1
       have hw162_0 := hx162_0
       obtain rfl : ad160 = ad162 := (by injection e162)
       replace hx162_0 := Xm HB hx162_0
       replace hx162_1 := Xm HB hx162_1
       replace hx162_2 := Xm HB hx162_2
       replace p162 := eq_true p162
       replace q162 := eq_true q162
       have p163 : 0 ≤ (x5_1 : Int) := of_decide_eq_true Xa
       have q163 : x5_1 < (l1.length : Int) := of_decide_eq_true Xa
       obtain ⟨ad163, e163, hx163_0, hx163_1, hx163_2⟩ := at_T38 HR1.out x5_1 p163 q163
       have hw163_2 := hx163_2
       have hw163_1 := hx163_1
       have hw163_0 := hx163_0
       obtain rfl : ad160 = ad163 := (by injection e163)
       replace hx163_0 := Xm HB hx163_0
       replace hx163_1 := Xm HB hx163_1
       replace hx163_2 := Xm HB hx163_2
       replace p163 := eq_true p163
       replace q163 := eq_true q163
       refine start_ (n := 24) (S := fun w' => w'.cell? ⟨gb159, 0, none⟩ = some (.int .i64 a0_0) ∧ w'.cell? ⟨gb159, 1, none⟩ = some (.int .i64 a0_1) ∧ w'.cell? ⟨gb159, 2, none⟩ = some (.slice A0_2 l0_2.length c0_2) ∧ w'.cell? (ad160.add ((x5_1).toNat * 3)) = some (.int .i64 ((rd_T38 l1 x5_1).f0)) ∧ w'.cell? ⟨(ad160.add ((x5_1).toNat * 3)).block, (ad160.add ((x5_1).toNat * 3)).off + 1, none⟩ = some (.int .i64 ((rd_T38 l1 x5_1).f1)) ∧ w'.cell? ⟨(ad160.add ((x5_1).toNat * 3)).block, (ad160.add ((x5_1).toNat * 3)).off + 2, none⟩ = some (.int .i64 ((rd_T38 l1 x5_1).f2)) ∧ w'.cell? (ad160.add (((ji11)).toNat * 3)) = some (.int .i64 ((rd_T38 l1 (ji11)).f0)) ∧ w'.cell? ⟨(ad160.add (((ji11)).toNat * 3)).block, (ad160.add (((ji11)).toNat * 3)).off + 1, none⟩ = some (.int .i64 ((rd_T38 l1 (ji11)).f1)) ∧ w'.cell? ⟨(ad160.add (((ji11)).toNat * 3)).block, (ad160.add (((ji11)).toNat * 3)).off + 2, none⟩ = some (.int .i64 ((rd_T38 l1 (ji11)).f2)) ∧ w'.cell? (ad160.add ((x5_1).toNat * 3)) = some (.int .i64 ((rd_T38 l1 x5_1).f0)) ∧ w'.cell? ⟨(ad160.add ((x5_1).toNat * 3)).block, (ad160.add ((x5_1).toNat * 3)).off + 1, none⟩ = some (.int .i64 ((rd_T38 l1 x5_1).f1)) ∧ w'.cell? ⟨(ad160.add ((x5_1).toNat * 3)).block, (ad160.add ((x5_1).toNat * 3)).off + 2, none⟩ = some (.int .i64 ((rd_T38 l1 x5_1).f2))) (ds := []) #[false, false, false, false, false, false, false, false, false, false, false, false, false, false, false, false, false, false, false, false, false, false, false, false] (by kernel_rfl) rfl rfl ⟨(blk_cell BK159.out 0).trans rfl, (blk_cell BK159.out 1).trans rfl, (blk_cell BK159.out 2).trans rfl, Xn hw160_0, Xn hw160_1, Xn hw160_2, Xn hw162_0, Xn hw162_1, Xn hw162_2, Xn hw163_0, Xn hw163_1, Xn hw163_2⟩ (fun hHeld => ?_); refine with_tabW spec_l07Holds.tab6 spec_l07Holds.bits6 (fun HT_ HW_ => ?_)
       generalize wr.drew = w16 at BK159 HB hx160_0 hx160_1 hx160_2 hx162_0 hx162_1 hx162_2 hx163_0 hx163_1 hx163_2 hHeld ⊢
       refine Xpu 1 16 (XW.bs 24 2) HT_.out ?_
       refine Xpu 2 17 (XW.bs 24 6) HT_.out ?_
       refine Xpu 3 18 (XW.bs 24 14) HT_.out ?_
       refine Xta 0 15 (XW.bs 24 15) HT_.out HW_.out hHeld ?_
       refine Xta 4 19 (XW.bs 24 31) HT_.out HW_.out hHeld ?_
       refine one_ (i := 5) (N := some 20) (XW.bs 24 63) rfl rfl (one_of HT_.out (by kernel_rfl)) (by decide) (fun K hK => ?_)
       refine goes_ Try.func206 (by kernel_rfl) rfl #[.agg #[.int .i64 a0_0, .int .i64 a0_1, .slice A0_2 l0_2.length c0_2], .agg #[.int .i64 ((rd_T38 l1 x5_1).f0), .int .i64 ((rd_T38 l1 x5_1).f1), .int .i64 ((rd_T38 l1 x5_1).f2)]] (by rfl) rfl rfl (by (try simp only [List.map_toArray, List.map_cons, List.map_nil]); first | done | rfl | (simp only [List.length_drop, List.length_take]; rfl)) ?_
       with_reducible refine (spec_l07Hold.calls k1 a0_0 a0_1 _ _ l0_2 ((rd_T38 l1 x5_1).f0) ((rd_T38 l1 x5_1).f1) ((rd_T38 l1 x5_1).f2) true _ ?side1 ?side2 A8.out).mono ?_
       (case side1 => exact Xc HR0_2)
       (case side2 => exact HC0_2.out)
       rintro e w17 ⟨rfl, hb⟩
       refine ⟨_, rfl, ?_⟩
       replace BK159 := Xbb BK159 hb
       replace HB := Aside0.mk (below_step Xi hb)
       (try clear hb)
       (try clear hb2)
       (try clear hk)
       (try clear hi)
       refine hK.out _ _ ⟨(blk_cell BK159.out 0).trans rfl, (blk_cell BK159.out 1).trans rfl, (blk_cell BK159.out 2).trans rfl, Xn hw160_0, Xn hw160_1, Xn hw160_2, Xn hw162_0, Xn hw162_1, Xn hw162_2, Xn hw163_0, Xn hw163_1, Xn hw163_2⟩ (fun hHeld => ?_)
       clear hK K
       refine Xno ?_
       refine Xpu 6 21 (XW.bs 24 127) HT_.out ?_
       refine Xpu 7 22 (XW.bs 24 255) HT_.out ?_
       refine Xpu 8 23 (XW.bs 24 511) HT_.out ?_
       refine Xpu 9 24 (XW.bs 24 1023) HT_.out ?_
       refine Xpu 10 25 (XW.bs 24 2047) HT_.out ?_
       refine Xpu 11 26 (XW.bs 24 4095) HT_.out ?_
       refine Xpu 12 27 (XW.bs 24 8191) HT_.out ?_
       refine Xpu 13 28 (XW.bs 24 16383) HT_.out ?_
       refine Xpu 14 29 (XW.bs 24 32767) HT_.out ?_
       refine Xpu 16 31 (XW.bs 24 98303) HT_.out ?_
       refine Xpu 17 32 (XW.bs 24 229375) HT_.out ?_
       refine Xpu 18 33 (XW.bs 24 491519) HT_.out ?_
       refine Xta 15 30 (XW.bs 24 524287) HT_.out HW_.out hHeld ?_
       refine Xta 19 34 (XW.bs 24 1048575) HT_.out HW_.out hHeld ?_
       refine one_ (i := 20) (N := some 35) (XW.bs 24 2097151) rfl rfl (one_of HT_.out (by kernel_rfl)) (by decide) (fun K hK => ?_)
       refine goes_ Try.func116 (by kernel_rfl) rfl #[.agg #[.int .i64 ((rd_T38 l1 (ji11)).f0), .int .i64 ((rd_T38 l1 (ji11)).f1), .int .i64 ((rd_T38 l1 (ji11)).f2)], .agg #[.int .i64 ((rd_T38 l1 x5_1).f0), .int .i64 ((rd_T38 l1 x5_1).f1), .int .i64 ((rd_T38 l1 x5_1).f2)]] (by rfl) rfl rfl (by (try simp only [List.map_toArray, List.map_cons, List.map_nil]); first | done | (simp only [hji11]; rfl) | rfl | (simp only [List.length_drop, List.length_take]; rfl)) ?_
       with_reducible refine (spec_l07Less.calls ((rd_T38 l1 (ji11)).f0) ((rd_T38 l1 (ji11)).f1) ((rd_T38 l1 (ji11)).f2) ((rd_T38 l1 x5_1).f0) ((rd_T38 l1 x5_1).f1) ((rd_T38 l1 x5_1).f2) t164 _ A14.out).mono ?_
       rintro e w18 ⟨rfl, hb⟩
       refine ⟨_, rfl, ?_⟩
       replace BK159 := Xbb BK159 hb
       replace HB := Aside0.mk (below_step Xi hb)
       (try clear hb)
       (try clear hb2)
       (try clear hk)
       (try clear hi)
       refine hK.out _ _ ⟨(blk_cell BK159.out 0).trans rfl, (blk_cell BK159.out 1).trans rfl, (blk_cell BK159.out 2).trans rfl, Xn hw160_0, Xn hw160_1, Xn hw160_2, Xn hw162_0, Xn hw162_1, Xn hw162_2, Xn hw163_0, Xn hw163_1, Xn hw163_2⟩ (fun hHeld => ?_)
       clear hK K
       refine Xno ?_
       refine Xpu 21 36 (XW.bs 24 4194303) HT_.out ?_
       refine Xpu 22 37 (XW.bs 24 8388607) HT_.out ?_
       refine Xpu 23 38 (XW.bs 24 16777215) HT_.out ?_
       refine done_ (done_of HT_.out (by kernel_rfl)) ?_
       go_upto_if 38 with (fail)
       have H := HC15.out
       clear HC15
       by_cases c19 : t164 = true
       ·subst c19
        (first | rw [if_pos rfl] at H | skip)
        have H' := Aside0.mk H
        clear H
        go_wp2
        go_roundg k1
        case measure => have := HK1.out; omega
        case rel => exact ⟨(wrap64 (x5_1 + 1)), Xr, H', Xk1, BK159, ⟨Xi⟩⟩
       ·replace c19 := Bool.eq_false_iff.mpr c19
        subst c19
        (first | rw [if_neg (show ¬ (false = true) by decide)] at H | skip)
        obtain rfl := Option.some.inj H
        go_wp2
        go_ret
        exact ⟨by first | rfl | (simp [errW_none, errW_some] <;> rfl) | (simp only [← hji11]; first | rfl | (simp [errW_none, errW_some] <;> rfl)) | (simp [*, errW_none, errW_some] <;> rfl), Xi⟩
      ·have c10b0 : decide (0 < x5_1) = false := decide_eq_false c10
       clear c10
       have H' := Aside0.mk H
       clear H
       try go_wp2_with (fail)
       replace BK159 := Aside0.mk (blk_drew BK159.out)
       replace HB := Aside0.mk (below_drew1 HB.out)
       have p160 : 0 ≤ (x5_1 : Int) := of_decide_eq_true Xa
       have q160 : x5_1 < (l1.length : Int) := of_decide_eq_true Xa
       obtain ⟨ad160, e160, hx160_0, hx160_1, hx160_2⟩ := at_T38 HR1.out x5_1 p160 q160
       have hw160_2 := hx160_2
       have hw160_1 := hx160_1
       have hw160_0 := hx160_0
       cases e160
       replace hx160_0 := Xm HB hx160_0
       replace hx160_1 := Xm HB hx160_1
       replace hx160_2 := Xm HB hx160_2
       replace p160 := eq_true p160
       replace q160 := eq_true q160
       refine start_ (n := 24) (S := fun w' => w'.cell? ⟨gb159, 0, none⟩ = some (.int .i64 a0_0) ∧ w'.cell? ⟨gb159, 1, none⟩ = some (.int .i64 a0_1) ∧ w'.cell? ⟨gb159, 2, none⟩ = some (.slice A0_2 l0_2.length c0_2) ∧ w'.cell? (ad160.add ((x5_1).toNat * 3)) = some (.int .i64 ((rd_T38 l1 x5_1).f0)) ∧ w'.cell? ⟨(ad160.add ((x5_1).toNat * 3)).block, (ad160.add ((x5_1).toNat * 3)).off + 1, none⟩ = some (.int .i64 ((rd_T38 l1 x5_1).f1)) ∧ w'.cell? ⟨(ad160.add ((x5_1).toNat * 3)).block, (ad160.add ((x5_1).toNat * 3)).off + 2, none⟩ = some (.int .i64 ((rd_T38 l1 x5_1).f2))) (ds := []) #[false, false, false, false, false, false, false, false, false, false, false, false, false, false, false, false, false, false, false, false, false, false, false, false] (by kernel_rfl) rfl rfl ⟨(blk_cell BK159.out 0).trans rfl, (blk_cell BK159.out 1).trans rfl, (blk_cell BK159.out 2).trans rfl, Xn hw160_0, Xn hw160_1, Xn hw160_2⟩ (fun hHeld => ?_); refine with_tabW spec_l07Holds.tab6 spec_l07Holds.bits6 (fun HT_ HW_ => ?_)
       generalize wr.drew = w20 at BK159 HB hx160_0 hx160_1 hx160_2 hHeld ⊢
       refine Xpu 1 16 (XW.bs 24 2) HT_.out ?_
       refine Xpu 2 17 (XW.bs 24 6) HT_.out ?_
       refine Xpu 3 18 (XW.bs 24 14) HT_.out ?_
       refine Xta 0 15 (XW.bs 24 15) HT_.out HW_.out hHeld ?_
       refine Xta 4 19 (XW.bs 24 31) HT_.out HW_.out hHeld ?_
       refine one_ (i := 5) (N := some 20) (XW.bs 24 63) rfl rfl (one_of HT_.out (by kernel_rfl)) (by decide) (fun K hK => ?_)
       refine goes_ Try.func206 (by kernel_rfl) rfl #[.agg #[.int .i64 a0_0, .int .i64 a0_1, .slice A0_2 l0_2.length c0_2], .agg #[.int .i64 ((rd_T38 l1 x5_1).f0), .int .i64 ((rd_T38 l1 x5_1).f1), .int .i64 ((rd_T38 l1 x5_1).f2)]] (by rfl) rfl rfl (by (try simp only [List.map_toArray, List.map_cons, List.map_nil]); first | done | rfl | (simp only [List.length_drop, List.length_take]; rfl)) ?_
       with_reducible refine (spec_l07Hold.calls k1 a0_0 a0_1 _ _ l0_2 ((rd_T38 l1 x5_1).f0) ((rd_T38 l1 x5_1).f1) ((rd_T38 l1 x5_1).f2) true _ ?side1 ?side2 A8.out).mono ?_
       (case side1 => exact Xc HR0_2)
       (case side2 => exact HC0_2.out)
       rintro e w21 ⟨rfl, hb⟩
       refine ⟨_, rfl, ?_⟩
       replace BK159 := Xbb BK159 hb
       replace HB := Aside0.mk (below_step Xi hb)
       (try clear hb)
       (try clear hb2)
       (try clear hk)
       (try clear hi)
       refine hK.out _ _ ⟨(blk_cell BK159.out 0).trans rfl, (blk_cell BK159.out 1).trans rfl, (blk_cell BK159.out 2).trans rfl, Xn hw160_0, Xn hw160_1, Xn hw160_2⟩ (fun hHeld => ?_)
       clear hK K
       refine Xno ?_
       refine Xpu 6 21 (XW.bs 24 127) HT_.out ?_
       refine Xpu 7 22 (XW.bs 24 255) HT_.out ?_
       refine Xpu 8 23 (XW.bs 24 511) HT_.out ?_
       refine Xpu 9 24 (XW.bs 24 1023) HT_.out ?_
       refine Xpu 10 25 (XW.bs 24 2047) HT_.out ?_
       refine Xpn 11 26 (XW.bs 24 4095) HT_.out ?_
       refine Xpn 12 27 (XW.bs 24 8191) HT_.out ?_
       refine Xpn 13 28 (XW.bs 24 16383) HT_.out ?_
       refine Xpn 14 29 (XW.bs 24 32767) HT_.out ?_
       refine Xpn 15 30 (XW.bs 24 65535) HT_.out ?_
       refine Xpn 16 31 (XW.bs 24 131071) HT_.out ?_
       refine Xpn 17 32 (XW.bs 24 262143) HT_.out ?_
       refine Xpn 18 33 (XW.bs 24 524287) HT_.out ?_
       refine Xpn 19 34 (XW.bs 24 1048575) HT_.out ?_
       refine Xpn 20 35 (XW.bs 24 2097151) HT_.out ?_
       refine Xpn 21 36 (XW.bs 24 4194303) HT_.out ?_
       refine Xpu 22 37 (XW.bs 24 8388607) HT_.out ?_
       refine Xpu 23 38 (XW.bs 24 16777215) HT_.out ?_
       refine done_ (done_of HT_.out (by kernel_rfl)) ?_
       try go_wp2_with (fail)
       go_roundg k1
       case measure => have := HK1.out; omega
       case rel => exact ⟨(wrap64 (x5_1 + 1)), Xr, H', Xk1, BK159, ⟨Xi⟩⟩
     ·replace c9 := Bool.eq_false_iff.mpr c9
      subst c9
      (first | rw [if_neg (show ¬ (false = true) by decide)] at H | skip)
      obtain rfl := Option.some.inj H
      try go_wp2_with (fail)
      replace BK159 := Aside0.mk (blk_drew BK159.out)
      replace HB := Aside0.mk (below_drew1 HB.out)
      have p160 : 0 ≤ (x5_1 : Int) := of_decide_eq_true Xa
      have q160 : x5_1 < (l1.length : Int) := of_decide_eq_true Xa
      obtain ⟨ad160, e160, hx160_0, hx160_1, hx160_2⟩ := at_T38 HR1.out x5_1 p160 q160
      have hw160_2 := hx160_2
      have hw160_1 := hx160_1
      have hw160_0 := hx160_0
      cases e160
      replace hx160_0 := Xm HB hx160_0
      replace hx160_1 := Xm HB hx160_1
      replace hx160_2 := Xm HB hx160_2
      replace p160 := eq_true p160
      replace q160 := eq_true q160
      refine start_ (n := 24) (S := fun w' => w'.cell? ⟨gb159, 0, none⟩ = some (.int .i64 a0_0) ∧ w'.cell? ⟨gb159, 1, none⟩ = some (.int .i64 a0_1) ∧ w'.cell? ⟨gb159, 2, none⟩ = some (.slice A0_2 l0_2.length c0_2) ∧ w'.cell? (ad160.add ((x5_1).toNat * 3)) = some (.int .i64 ((rd_T38 l1 x5_1).f0)) ∧ w'.cell? ⟨(ad160.add ((x5_1).toNat * 3)).block, (ad160.add ((x5_1).toNat * 3)).off + 1, none⟩ = some (.int .i64 ((rd_T38 l1 x5_1).f1)) ∧ w'.cell? ⟨(ad160.add ((x5_1).toNat * 3)).block, (ad160.add ((x5_1).toNat * 3)).off + 2, none⟩ = some (.int .i64 ((rd_T38 l1 x5_1).f2))) (ds := []) #[false, false, false, false, false, false, false, false, false, false, false, false, false, false, false, false, false, false, false, false, false, false, false, false] (by kernel_rfl) rfl rfl ⟨(blk_cell BK159.out 0).trans rfl, (blk_cell BK159.out 1).trans rfl, (blk_cell BK159.out 2).trans rfl, Xn hw160_0, Xn hw160_1, Xn hw160_2⟩ (fun hHeld => ?_); refine with_tabW spec_l07Holds.tab6 spec_l07Holds.bits6 (fun HT_ HW_ => ?_)
      generalize wr.drew = w22 at BK159 HB hx160_0 hx160_1 hx160_2 hHeld ⊢
      refine Xpu 1 16 (XW.bs 24 2) HT_.out ?_
      refine Xpu 2 17 (XW.bs 24 6) HT_.out ?_
      refine Xpu 3 18 (XW.bs 24 14) HT_.out ?_
      refine Xta 0 15 (XW.bs 24 15) HT_.out HW_.out hHeld ?_
      refine Xta 4 19 (XW.bs 24 31) HT_.out HW_.out hHeld ?_
      refine one_ (i := 5) (N := some 20) (XW.bs 24 63) rfl rfl (one_of HT_.out (by kernel_rfl)) (by decide) (fun K hK => ?_)
      refine goes_ Try.func206 (by kernel_rfl) rfl #[.agg #[.int .i64 a0_0, .int .i64 a0_1, .slice A0_2 l0_2.length c0_2], .agg #[.int .i64 ((rd_T38 l1 x5_1).f0), .int .i64 ((rd_T38 l1 x5_1).f1), .int .i64 ((rd_T38 l1 x5_1).f2)]] (by rfl) rfl rfl (by (try simp only [List.map_toArray, List.map_cons, List.map_nil]); first | done | rfl | (simp only [List.length_drop, List.length_take]; rfl)) ?_
      with_reducible refine (spec_l07Hold.calls k1 a0_0 a0_1 _ _ l0_2 ((rd_T38 l1 x5_1).f0) ((rd_T38 l1 x5_1).f1) ((rd_T38 l1 x5_1).f2) false _ ?side1 ?side2 A8.out).mono ?_
      (case side1 => exact Xc HR0_2)
      (case side2 => exact HC0_2.out)
      rintro e w23 ⟨rfl, hb⟩
      refine ⟨_, rfl, ?_⟩
      replace BK159 := Xbb BK159 hb
      replace HB := Aside0.mk (below_step Xi hb)
      (try clear hb)
      (try clear hb2)
      (try clear hk)
      (try clear hi)
      refine hK.out _ _ ⟨(blk_cell BK159.out 0).trans rfl, (blk_cell BK159.out 1).trans rfl, (blk_cell BK159.out 2).trans rfl, Xn hw160_0, Xn hw160_1, Xn hw160_2⟩ (fun hHeld => ?_)
      clear hK K
      refine Xno ?_
      refine Xpu 6 21 (XW.bs 24 127) HT_.out ?_
      refine Xpu 7 22 (XW.bs 24 255) HT_.out ?_
      refine Xpn 8 23 (XW.bs 24 511) HT_.out ?_
      refine Xpn 9 24 (XW.bs 24 1023) HT_.out ?_
      refine Xpn 10 25 (XW.bs 24 2047) HT_.out ?_
      refine Xpn 11 26 (XW.bs 24 4095) HT_.out ?_
      refine Xpn 12 27 (XW.bs 24 8191) HT_.out ?_
      refine Xpn 13 28 (XW.bs 24 16383) HT_.out ?_
      refine Xpn 14 29 (XW.bs 24 32767) HT_.out ?_
      refine Xpn 15 30 (XW.bs 24 65535) HT_.out ?_
      refine Xpn 16 31 (XW.bs 24 131071) HT_.out ?_
      refine Xpn 17 32 (XW.bs 24 262143) HT_.out ?_
      refine Xpn 18 33 (XW.bs 24 524287) HT_.out ?_
      refine Xpn 19 34 (XW.bs 24 1048575) HT_.out ?_
      refine Xpn 20 35 (XW.bs 24 2097151) HT_.out ?_
      refine Xpn 21 36 (XW.bs 24 4194303) HT_.out ?_
      refine Xpn 22 37 (XW.bs 24 8388607) HT_.out ?_
      refine Xpu 23 38 (XW.bs 24 16777215) HT_.out ?_
      refine done_ (done_of HT_.out (by kernel_rfl)) ?_
      try go_wp2_with (fail)
      go_ret
      exact ⟨Xe, Xi⟩
    ·obtain rfl := Option.some.inj H
     go_wp2
     go_ret
     exact ⟨Xe, Xi⟩

end Go.Proofs.Ytocelbmpnjnnbaa.XA
