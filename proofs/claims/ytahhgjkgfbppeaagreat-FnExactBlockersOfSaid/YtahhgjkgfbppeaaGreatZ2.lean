/- Words and contracts of this claim. Conditions: each theorem's own premises. -/
import Derived.Test.YtahhgjkgfbppeaaGreatZ1
namespace Go.Proofs.YtahhgjkgfbppeaaGreat.XA
open Go.RowKit Go.Proofs.YtahhgjkgfbppeaaGreatW.PrintWords Go.Proofs.YtahhgjkgfbppeaaGreatW.PrintLast Go.Proofs.YtahhgjkgfbppeaaGreatW.PrintMore XW
attribute [local go_sem] max2_int min2_int max_two min_two max_three min_three max_four min_four   -- for this text's walks alone
set_option linter.unusedVariables false
set_option linter.unusedSimpArgs false
set_option maxHeartbeats 8000000
set_option maxRecDepth 100000
def spec_l07Holds.l0 : Nat → List (S39) → Int → Int → Int → List (S113) → Option (Bool)
 | 0, _, _, _, _, _ => none
 | k + 1, x1, x5, x208000, x208001, x208002 => if x5 < (x1.length : Int) then (if 0 ≤ x5 then ((spec_l07Hold.f k x208000 x208001 x208002 ((rd_T39 x1 x5).f0) ((rd_T39 x1 x5).f1) ((rd_T39 x1 x5).f2)).bind fun t209 => (if t209 = true then (if x5 > 0 then (if 0 ≤ (wrap64 (x5 - 1)) then (if (wrap64 (x5 - 1)) < (x1.length : Int) then ((spec_l07Less.f ((rd_T39 x1 (wrap64 (x5 - 1))).f0) ((rd_T39 x1 (wrap64 (x5 - 1))).f1) ((rd_T39 x1 (wrap64 (x5 - 1))).f2) ((rd_T39 x1 x5).f0) ((rd_T39 x1 x5).f1) ((rd_T39 x1 x5).f2)).bind fun t212 => (if t212 = true then (spec_l07Holds.l0 k x1 (wrap64 (x5 + 1)) x208000 x208001 x208002) else (some false))) else (none)) else (none)) else (spec_l07Holds.l0 k x1 (wrap64 (x5 + 1)) x208000 x208001 x208002)) else (some false))) else (none)) else (some true)
def spec_l07Holds.f (k : Nat) (a0_0 : Int) (a0_1 : Int) (l0_2 : List (S113)) (l1 : List (S39)) : Option (Bool) := if (l1.length : Int) > 30 then (some false) else (spec_l07Holds.l0 k l1 0 a0_0 a0_1 l0_2)
def spec_l07Holds.T6 : Bool × List (List Nat × List Nat) := (true, [([], []), ([], []), ([], []), ([1, 2], [1, 2]), ([3], [3]), ([0, 4], [0, 4]), ([5], [5]), ([6, 5], [6]), ([7], [7]), ([8, 7], [7, 8]), ([9, 7, 7], [7, 9]), ([10], [10]), ([10], [10]), ([12, 10], [10, 12]), ([11, 13, 10], [10, 11, 13]), ([14, 10], [10, 14]), ([10], [10]), ([10], [10]), ([16, 17, 10], [10, 16, 17]), ([18, 10], [10, 18]), ([15, 19, 10, 10], [10, 15, 19]), ([20, 10], [10, 20]), ([10, 21, 7], [7, 10, 21]), ([7, 22], [7, 22])])
def spec_l07Holds.B6 : List Nat := [0, 0, 0, 6, 14, 31, 63, 127, 255, 511, 1023, 2047, 2047, 6143, 16383, 32767, 2047, 2047, 198655, 460799, 1048575, 2097151, 4194303, 8388607]
theorem spec_l07Holds.tab6 : rtab .any (opsOf Tryz.f144 6) = spec_l07Holds.T6 := by kernel_rfl
theorem spec_l07Holds.bits6 : waitsOk spec_l07Holds.T6.2 spec_l07Holds.B6 = true := by kernel_rfl
theorem spec_l07Holds.calls (k : Nat) (a0_0 : Int) (a0_1 : Int) (A0_2 : Option Addr) (c0_2 : Nat) (l0_2 : List (S113)) (A1 : Option Addr) (c1 : Nat) (l1 : List (S39)) (r : Bool) (w : World) (hr0_2 : Kd.C k113 w A0_2 l0_2.length l0_2) (hc0_2 : l0_2.length ≤ c0_2) (hr1 : Kd.C k39 w A1 l1.length l1) (hc1 : l1.length ≤ c1) (h : spec_l07Holds.f k a0_0 a0_1 l0_2 l1 = some r) :
  Calls Tryz.prog 144 #[.agg #[.int .i64 a0_0, .int .i64 a0_1, .slice A0_2 l0_2.length c0_2], .slice A1 l1.length c1] w fun e w' => e = .returned (.bool r) ∧ Below w.heap.size w w' := by
 have hu35 := Tryz.underlying35
 have hu39 := Tryz.underlying39
 have HR0_2 := Aside0.mk hr0_2
 have HC0_2 := Aside0.mk hc0_2
 clear hr0_2 hc0_2
 have HR1 := Aside0.mk hr1
 have HC1 := Aside0.mk hc1
 clear hr1 hc1
 have HB := Aside0.mk (Below.refl w.heap.size w)
 have H : (if (l1.length : Int) > 30 then (some false) else (spec_l07Holds.l0 k l1 0 a0_0 a0_1 l0_2)) = some r := h
 clear h
 have HC3 := Aside0.mk H
 clear H
 go_enter Tryz.func144, Tryz.ntmps144
 go_upto_if 8 with (first | ((with_reducible refine gate_dst (N := 2) rfl ?_); refine Xbox 2 #[.int .i64 a0_0, .int .i64 a0_1, .slice A0_2 l0_2.length c0_2] 35 ?_; intro gb207 hg w4 hbox hb; have BK207 := Aside0.mk (hbox); have GE207 := Xge hg Xi; replace HB := Aside0.mk (below_step Xi hb); clear hb hbox hg))
 have H := HC3.out
 clear HC3
 obtain ⟨c5, H⟩ | ⟨c5, H⟩ := Xiu H
 ·have c5b0 : decide (30 < (l1.length : Int)) = true := decide_eq_true c5
  have c5b1 : decide (30 < l1.length) = true := decide_eq_true (by omega)
  clear c5
  (first | rw [c5b0] | (simp only [i64_w, i32_w]; rw [c5b0]) | skip)
  obtain rfl := Option.some.inj H
  go_wp2
  go_ret
  exact ⟨Xe, Xi⟩
 have c5b0 : decide (30 < (l1.length : Int)) = false := decide_eq_false c5
 have c5b1 : decide (30 < l1.length) = false := decide_eq_false (by omega)
 clear c5
 (first | rw [c5b0] | (simp only [i64_w, i32_w]; rw [c5b0]) | skip)
 have H' := Aside0.mk H
 clear H
 go_wp2
 go_loopg [5] k (fun kq v5 w' => ∃ (x5_1 : Int), v5 = .int .i64 x5_1 ∧ Aside0 (spec_l07Holds.l0 kq l1 x5_1 a0_0 a0_1 l0_2 = some r) ∧ Aside0 (kq ≤ k) ∧ Aside0 (w'.heap[gb207]? = some (.cells #[.int .i64 a0_0, .int .i64 a0_1, (.slice A0_2 l0_2.length c0_2)] 35 (0, 0))) ∧ Aside0 (Below w.heap.size w w'))
 case atStart => exact ⟨(0), Xr, H', Xkr, BK207, ⟨Xi⟩⟩
 clear H'
 (try clear c1); (try clear c5); (try clear c5b0); (try clear c5b1)
 obtain ⟨x5_1, rfl, HA, HK1, BK207, HB⟩ := hrel
 cases gk with | zero => cases HA.out | succ k1 => ?_
 have H := HA.out
 clear HA
 simp only [spec_l07Holds.l0] at H
 obtain ⟨c6b0, H⟩ | ⟨c6b0, H⟩ := Xit H
 ·obtain ⟨c7b0, H⟩ := Xid H
  obtain ⟨t209, A8, H⟩ := Xbi H
  try dsimp only at H
  by_cases c9 : t209 = true
  ·subst c9
   try rw [if_pos rfl] at H
   obtain ⟨c10, H⟩ | ⟨c10, H⟩ := Xiu H
   ·have c10b0 : decide (0 < x5_1) = true := decide_eq_true c10
    clear c10
    obtain ⟨ji11, hji11⟩ : ∃ j_ : Int, (wrap64 (x5_1 - 1)) = j_ := ⟨_, rfl⟩
    replace H : (if 0 ≤ (ji11) then (if (ji11) < (l1.length : Int) then ((spec_l07Less.f ((rd_T39 l1 (ji11)).f0) ((rd_T39 l1 (ji11)).f1) ((rd_T39 l1 (ji11)).f2) ((rd_T39 l1 x5_1).f0) ((rd_T39 l1 x5_1).f1) ((rd_T39 l1 x5_1).f2)).bind fun t212 => (if t212 = true then (spec_l07Holds.l0 k1 l1 (wrap64 (x5_1 + 1)) a0_0 a0_1 l0_2) else (some false))) else (none)) else (none)) = some r := by first | (rw [hji11] at H; exact H) | (simp only [hji11] at H ⊢; exact H)
    (try rw [hji11] at A8)
    have hji11w : (IntKind.i64.wrap (x5_1 - 1)) = ji11 := (i64_w _).trans hji11
    obtain ⟨c12b0, H⟩ := Xid H
    obtain ⟨c13b0, H⟩ := Xid H
    obtain ⟨t212, A14, H⟩ := Xbi H
    try dsimp only at H
    have HC15 := Aside0.mk H
    clear H
    try go_wp2_with (fail)
    replace BK207 := Aside0.mk (blk_drew BK207.out)
    replace HB := Aside0.mk (below_drew1 HB.out)
    have p208 : 0 ≤ (x5_1 : Int) := of_decide_eq_true Xa
    have q208 : x5_1 < (l1.length : Int) := of_decide_eq_true Xa
    obtain ⟨ad208, e208, hx208_0, hx208_1, hx208_2⟩ := at_T39 HR1.out x5_1 p208 q208
    have hw208_2 := hx208_2
    have hw208_1 := hx208_1
    have hw208_0 := hx208_0
    cases e208
    replace hx208_0 := Xm HB hx208_0
    replace hx208_1 := Xm HB hx208_1
    replace hx208_2 := Xm HB hx208_2
    replace p208 := eq_true p208
    replace q208 := eq_true q208
    have p210 : 0 ≤ ((ji11) : Int) := of_decide_eq_true Xa
    have q210 : (ji11) < (l1.length : Int) := of_decide_eq_true Xa
    obtain ⟨ad210, e210, hx210_0, hx210_1, hx210_2⟩ := at_T39 HR1.out (ji11) p210 q210
    have hw210_2 := hx210_2
    have hw210_1 := hx210_1
    have hw210_0 := hx210_0
    obtain rfl : ad208 = ad210 := (by injection e210)
    replace hx210_0 := Xm HB hx210_0
    replace hx210_1 := Xm HB hx210_1
    replace hx210_2 := Xm HB hx210_2
    replace p210 := eq_true p210
    replace q210 := eq_true q210
    have p211 : 0 ≤ (x5_1 : Int) := of_decide_eq_true Xa
    have q211 : x5_1 < (l1.length : Int) := of_decide_eq_true Xa
    obtain ⟨ad211, e211, hx211_0, hx211_1, hx211_2⟩ := at_T39 HR1.out x5_1 p211 q211
    have hw211_2 := hx211_2
    have hw211_1 := hx211_1
    have hw211_0 := hx211_0
    obtain rfl : ad208 = ad211 := (by injection e211)
    replace hx211_0 := Xm HB hx211_0
    replace hx211_1 := Xm HB hx211_1
    replace hx211_2 := Xm HB hx211_2
    replace p211 := eq_true p211
    replace q211 := eq_true q211
    refine start_ (n := 24) (S := fun w' => w'.cell? ⟨gb207, 0, none⟩ = some (.int .i64 a0_0) ∧ w'.cell? ⟨gb207, 1, none⟩ = some (.int .i64 a0_1) ∧ w'.cell? ⟨gb207, 2, none⟩ = some (.slice A0_2 l0_2.length c0_2) ∧ w'.cell? (ad208.add ((x5_1).toNat * 3)) = some (.int .i64 ((rd_T39 l1 x5_1).f0)) ∧ w'.cell? ⟨(ad208.add ((x5_1).toNat * 3)).block, (ad208.add ((x5_1).toNat * 3)).off + 1, none⟩ = some (.int .i64 ((rd_T39 l1 x5_1).f1)) ∧ w'.cell? ⟨(ad208.add ((x5_1).toNat * 3)).block, (ad208.add ((x5_1).toNat * 3)).off + 2, none⟩ = some (.int .i64 ((rd_T39 l1 x5_1).f2)) ∧ w'.cell? (ad208.add (((ji11)).toNat * 3)) = some (.int .i64 ((rd_T39 l1 (ji11)).f0)) ∧ w'.cell? ⟨(ad208.add (((ji11)).toNat * 3)).block, (ad208.add (((ji11)).toNat * 3)).off + 1, none⟩ = some (.int .i64 ((rd_T39 l1 (ji11)).f1)) ∧ w'.cell? ⟨(ad208.add (((ji11)).toNat * 3)).block, (ad208.add (((ji11)).toNat * 3)).off + 2, none⟩ = some (.int .i64 ((rd_T39 l1 (ji11)).f2)) ∧ w'.cell? (ad208.add ((x5_1).toNat * 3)) = some (.int .i64 ((rd_T39 l1 x5_1).f0)) ∧ w'.cell? ⟨(ad208.add ((x5_1).toNat * 3)).block, (ad208.add ((x5_1).toNat * 3)).off + 1, none⟩ = some (.int .i64 ((rd_T39 l1 x5_1).f1)) ∧ w'.cell? ⟨(ad208.add ((x5_1).toNat * 3)).block, (ad208.add ((x5_1).toNat * 3)).off + 2, none⟩ = some (.int .i64 ((rd_T39 l1 x5_1).f2))) (ds := []) #[false, false, false, false, false, false, false, false, false, false, false, false, false, false, false, false, false, false, false, false, false, false, false, false] (by kernel_rfl) rfl rfl ⟨(blk_cell BK207.out 0).trans rfl, (blk_cell BK207.out 1).trans rfl, (blk_cell BK207.out 2).trans rfl, Xn hw208_0, Xn hw208_1, Xn hw208_2, Xn hw210_0, Xn hw210_1, Xn hw210_2, Xn hw211_0, Xn hw211_1, Xn hw211_2⟩ (fun hHeld => ?_); refine with_tabW spec_l07Holds.tab6 spec_l07Holds.bits6 (fun HT_ HW_ => ?_)
    generalize wr.drew = w16 at BK207 HB hx208_0 hx208_1 hx208_2 hx210_0 hx210_1 hx210_2 hx211_0 hx211_1 hx211_2 hHeld ⊢
    refine Xpu 1 16 (XW.bs 24 2) HT_.out ?_
    refine Xpu 2 17 (XW.bs 24 6) HT_.out ?_
    refine Xpu 3 18 (XW.bs 24 14) HT_.out ?_
    refine Xta 0 15 (XW.bs 24 15) HT_.out HW_.out hHeld ?_
    refine Xta 4 19 (XW.bs 24 31) HT_.out HW_.out hHeld ?_
    refine one_ (i := 5) (N := some 20) (XW.bs 24 63) rfl rfl (one_of HT_.out (by kernel_rfl)) (by decide) (fun K hK => ?_)
    refine goes_ Tryz.func171 (by kernel_rfl) rfl #[.agg #[.int .i64 a0_0, .int .i64 a0_1, .slice A0_2 l0_2.length c0_2], .agg #[.int .i64 ((rd_T39 l1 x5_1).f0), .int .i64 ((rd_T39 l1 x5_1).f1), .int .i64 ((rd_T39 l1 x5_1).f2)]] (by rfl) rfl rfl (by (try simp only [List.map_toArray, List.map_cons, List.map_nil]); first | done | rfl | (simp only [List.length_drop, List.length_take]; rfl)) ?_
    with_reducible refine (spec_l07Hold.calls k1 a0_0 a0_1 _ _ l0_2 ((rd_T39 l1 x5_1).f0) ((rd_T39 l1 x5_1).f1) ((rd_T39 l1 x5_1).f2) true _ ?side1 ?side2 A8.out).mono ?_
    (case side1 => exact Xc HR0_2)
    (case side2 => exact HC0_2.out)
    rintro e w17 ⟨rfl, hb⟩
    refine ⟨_, rfl, ?_⟩
    replace BK207 := Xbb BK207 hb
    replace HB := Aside0.mk (below_step Xi hb)
    try clear hb
    try clear hb2
    try clear hk
    try clear hi
    refine hK.out _ _ ⟨(blk_cell BK207.out 0).trans rfl, (blk_cell BK207.out 1).trans rfl, (blk_cell BK207.out 2).trans rfl, Xn hw208_0, Xn hw208_1, Xn hw208_2, Xn hw210_0, Xn hw210_1, Xn hw210_2, Xn hw211_0, Xn hw211_1, Xn hw211_2⟩ (fun hHeld => ?_)
    clear hK K
    refine Xno ?_
    refine Xpu 6 21 (XW.bs 24 127) HT_.out ?_
    refine Xpu 7 22 (XW.bs 24 255) HT_.out ?_
    refine Xpu 8 23 (XW.bs 24 511) HT_.out ?_
    refine Xpu 9 24 (XW.bs 24 1023) HT_.out ?_
    refine Xpu 10 25 (XW.bs 24 2047) HT_.out ?_
    refine Xpu 11 26 (XW.bs 24 4095) HT_.out ?_
    refine Xpu 12 27 (XW.bs 24 8191) HT_.out ?_
    refine Xpu 13 28 (XW.bs 24 16383) HT_.out ?_
    refine Xpu 14 29 (XW.bs 24 32767) HT_.out ?_
    refine Xpu 16 31 (XW.bs 24 98303) HT_.out ?_
    refine Xpu 17 32 (XW.bs 24 229375) HT_.out ?_
    refine Xpu 18 33 (XW.bs 24 491519) HT_.out ?_
    refine Xta 15 30 (XW.bs 24 524287) HT_.out HW_.out hHeld ?_
    refine Xta 19 34 (XW.bs 24 1048575) HT_.out HW_.out hHeld ?_
    refine one_ (i := 20) (N := some 35) (XW.bs 24 2097151) rfl rfl (one_of HT_.out (by kernel_rfl)) (by decide) (fun K hK => ?_)
    refine goes_ Tryz.func139 (by kernel_rfl) rfl #[.agg #[.int .i64 ((rd_T39 l1 (ji11)).f0), .int .i64 ((rd_T39 l1 (ji11)).f1), .int .i64 ((rd_T39 l1 (ji11)).f2)], .agg #[.int .i64 ((rd_T39 l1 x5_1).f0), .int .i64 ((rd_T39 l1 x5_1).f1), .int .i64 ((rd_T39 l1 x5_1).f2)]] (by rfl) rfl rfl (by (try simp only [List.map_toArray, List.map_cons, List.map_nil]); first | done | (simp only [hji11]; rfl) | rfl | (simp only [List.length_drop, List.length_take]; rfl)) ?_
    with_reducible refine (spec_l07Less.calls ((rd_T39 l1 (ji11)).f0) ((rd_T39 l1 (ji11)).f1) ((rd_T39 l1 (ji11)).f2) ((rd_T39 l1 x5_1).f0) ((rd_T39 l1 x5_1).f1) ((rd_T39 l1 x5_1).f2) t212 _ A14.out).mono ?_
    rintro e w18 ⟨rfl, hb⟩
    refine ⟨_, rfl, ?_⟩
    replace BK207 := Xbb BK207 hb
    replace HB := Aside0.mk (below_step Xi hb)
    try clear hb
    try clear hb2
    try clear hk
    try clear hi
    refine hK.out _ _ ⟨(blk_cell BK207.out 0).trans rfl, (blk_cell BK207.out 1).trans rfl, (blk_cell BK207.out 2).trans rfl, Xn hw208_0, Xn hw208_1, Xn hw208_2, Xn hw210_0, Xn hw210_1, Xn hw210_2, Xn hw211_0, Xn hw211_1, Xn hw211_2⟩ (fun hHeld => ?_)
    clear hK K
    refine Xno ?_
    refine Xpu 21 36 (XW.bs 24 4194303) HT_.out ?_
    refine Xpu 22 37 (XW.bs 24 8388607) HT_.out ?_
    refine Xpu 23 38 (XW.bs 24 16777215) HT_.out ?_
    refine done_ (done_of HT_.out (by kernel_rfl)) ?_
    go_upto_if 38 with (fail)
    have H := HC15.out
    clear HC15
    by_cases c19 : t212 = true
    ·subst c19
     try rw [if_pos rfl] at H
     have H' := Aside0.mk H
     clear H
     go_wp2
     go_roundg k1
     case measure => have := HK1.out; omega
     case rel => exact ⟨(wrap64 (x5_1 + 1)), Xr, H', Xk1, BK207, ⟨Xi⟩⟩
    replace c19 := Bool.eq_false_iff.mpr c19
    subst c19
    try rw [if_neg (show ¬ (false = true) by decide)] at H
    obtain rfl := Option.some.inj H
    go_wp2
    go_ret
    exact ⟨by first | rfl | (simp [errW_none, errW_some] <;> rfl) | (simp only [← hji11]; first | rfl | (simp [errW_none, errW_some] <;> rfl)) | (simp [*, errW_none, errW_some] <;> rfl), Xi⟩
   have c10b0 : decide (0 < x5_1) = false := decide_eq_false c10
   clear c10
   have H' := Aside0.mk H
   clear H
   try go_wp2_with (fail)
   replace BK207 := Aside0.mk (blk_drew BK207.out)
   replace HB := Aside0.mk (below_drew1 HB.out)
   have p208 : 0 ≤ (x5_1 : Int) := of_decide_eq_true Xa
   have q208 : x5_1 < (l1.length : Int) := of_decide_eq_true Xa
   obtain ⟨ad208, e208, hx208_0, hx208_1, hx208_2⟩ := at_T39 HR1.out x5_1 p208 q208
   have hw208_2 := hx208_2
   have hw208_1 := hx208_1
   have hw208_0 := hx208_0
   cases e208
   replace hx208_0 := Xm HB hx208_0
   replace hx208_1 := Xm HB hx208_1
   replace hx208_2 := Xm HB hx208_2
   replace p208 := eq_true p208
   replace q208 := eq_true q208
   refine start_ (n := 24) (S := fun w' => w'.cell? ⟨gb207, 0, none⟩ = some (.int .i64 a0_0) ∧ w'.cell? ⟨gb207, 1, none⟩ = some (.int .i64 a0_1) ∧ w'.cell? ⟨gb207, 2, none⟩ = some (.slice A0_2 l0_2.length c0_2) ∧ w'.cell? (ad208.add ((x5_1).toNat * 3)) = some (.int .i64 ((rd_T39 l1 x5_1).f0)) ∧ w'.cell? ⟨(ad208.add ((x5_1).toNat * 3)).block, (ad208.add ((x5_1).toNat * 3)).off + 1, none⟩ = some (.int .i64 ((rd_T39 l1 x5_1).f1)) ∧ w'.cell? ⟨(ad208.add ((x5_1).toNat * 3)).block, (ad208.add ((x5_1).toNat * 3)).off + 2, none⟩ = some (.int .i64 ((rd_T39 l1 x5_1).f2))) (ds := []) #[false, false, false, false, false, false, false, false, false, false, false, false, false, false, false, false, false, false, false, false, false, false, false, false] (by kernel_rfl) rfl rfl ⟨(blk_cell BK207.out 0).trans rfl, (blk_cell BK207.out 1).trans rfl, (blk_cell BK207.out 2).trans rfl, Xn hw208_0, Xn hw208_1, Xn hw208_2⟩ (fun hHeld => ?_); refine with_tabW spec_l07Holds.tab6 spec_l07Holds.bits6 (fun HT_ HW_ => ?_)
   generalize wr.drew = w20 at BK207 HB hx208_0 hx208_1 hx208_2 hHeld ⊢
   refine Xpu 1 16 (XW.bs 24 2) HT_.out ?_
   refine Xpu 2 17 (XW.bs 24 6) HT_.out ?_
   refine Xpu 3 18 (XW.bs 24 14) HT_.out ?_
   refine Xta 0 15 (XW.bs 24 15) HT_.out HW_.out hHeld ?_
   refine Xta 4 19 (XW.bs 24 31) HT_.out HW_.out hHeld ?_
   refine one_ (i := 5) (N := some 20) (XW.bs 24 63) rfl rfl (one_of HT_.out (by kernel_rfl)) (by decide) (fun K hK => ?_)
   refine goes_ Tryz.func171 (by kernel_rfl) rfl #[.agg #[.int .i64 a0_0, .int .i64 a0_1, .slice A0_2 l0_2.length c0_2], .agg #[.int .i64 ((rd_T39 l1 x5_1).f0), .int .i64 ((rd_T39 l1 x5_1).f1), .int .i64 ((rd_T39 l1 x5_1).f2)]] (by rfl) rfl rfl (by (try simp only [List.map_toArray, List.map_cons, List.map_nil]); first | done | rfl | (simp only [List.length_drop, List.length_take]; rfl)) ?_
   with_reducible refine (spec_l07Hold.calls k1 a0_0 a0_1 _ _ l0_2 ((rd_T39 l1 x5_1).f0) ((rd_T39 l1 x5_1).f1) ((rd_T39 l1 x5_1).f2) true _ ?side1 ?side2 A8.out).mono ?_
   (case side1 => exact Xc HR0_2)
   (case side2 => exact HC0_2.out)
   rintro e w21 ⟨rfl, hb⟩
   refine ⟨_, rfl, ?_⟩
   replace BK207 := Xbb BK207 hb
   replace HB := Aside0.mk (below_step Xi hb)
   try clear hb
   try clear hb2
   try clear hk
   try clear hi
   refine hK.out _ _ ⟨(blk_cell BK207.out 0).trans rfl, (blk_cell BK207.out 1).trans rfl, (blk_cell BK207.out 2).trans rfl, Xn hw208_0, Xn hw208_1, Xn hw208_2⟩ (fun hHeld => ?_)
   clear hK K
   refine Xno ?_
   refine Xpu 6 21 (XW.bs 24 127) HT_.out ?_
   refine Xpu 7 22 (XW.bs 24 255) HT_.out ?_
   refine Xpu 8 23 (XW.bs 24 511) HT_.out ?_
   refine Xpu 9 24 (XW.bs 24 1023) HT_.out ?_
   refine Xpu 10 25 (XW.bs 24 2047) HT_.out ?_
   refine Xpn 11 26 (XW.bs 24 4095) HT_.out ?_
   refine Xpn 12 27 (XW.bs 24 8191) HT_.out ?_
   refine Xpn 13 28 (XW.bs 24 16383) HT_.out ?_
   refine Xpn 14 29 (XW.bs 24 32767) HT_.out ?_
   refine Xpn 15 30 (XW.bs 24 65535) HT_.out ?_
   refine Xpn 16 31 (XW.bs 24 131071) HT_.out ?_
   refine Xpn 17 32 (XW.bs 24 262143) HT_.out ?_
   refine Xpn 18 33 (XW.bs 24 524287) HT_.out ?_
   refine Xpn 19 34 (XW.bs 24 1048575) HT_.out ?_
   refine Xpn 20 35 (XW.bs 24 2097151) HT_.out ?_
   refine Xpn 21 36 (XW.bs 24 4194303) HT_.out ?_
   refine Xpu 22 37 (XW.bs 24 8388607) HT_.out ?_
   refine Xpu 23 38 (XW.bs 24 16777215) HT_.out ?_
   refine done_ (done_of HT_.out (by kernel_rfl)) ?_
   try go_wp2_with (fail)
   go_roundg k1
   case measure => have := HK1.out; omega
   case rel => exact ⟨(wrap64 (x5_1 + 1)), Xr, H', Xk1, BK207, ⟨Xi⟩⟩
  replace c9 := Bool.eq_false_iff.mpr c9
  subst c9
  try rw [if_neg (show ¬ (false = true) by decide)] at H
  obtain rfl := Option.some.inj H
  try go_wp2_with (fail)
  replace BK207 := Aside0.mk (blk_drew BK207.out)
  replace HB := Aside0.mk (below_drew1 HB.out)
  have p208 : 0 ≤ (x5_1 : Int) := of_decide_eq_true Xa
  have q208 : x5_1 < (l1.length : Int) := of_decide_eq_true Xa
  obtain ⟨ad208, e208, hx208_0, hx208_1, hx208_2⟩ := at_T39 HR1.out x5_1 p208 q208
  have hw208_2 := hx208_2
  have hw208_1 := hx208_1
  have hw208_0 := hx208_0
  cases e208
  replace hx208_0 := Xm HB hx208_0
  replace hx208_1 := Xm HB hx208_1
  replace hx208_2 := Xm HB hx208_2
  replace p208 := eq_true p208
  replace q208 := eq_true q208
  refine start_ (n := 24) (S := fun w' => w'.cell? ⟨gb207, 0, none⟩ = some (.int .i64 a0_0) ∧ w'.cell? ⟨gb207, 1, none⟩ = some (.int .i64 a0_1) ∧ w'.cell? ⟨gb207, 2, none⟩ = some (.slice A0_2 l0_2.length c0_2) ∧ w'.cell? (ad208.add ((x5_1).toNat * 3)) = some (.int .i64 ((rd_T39 l1 x5_1).f0)) ∧ w'.cell? ⟨(ad208.add ((x5_1).toNat * 3)).block, (ad208.add ((x5_1).toNat * 3)).off + 1, none⟩ = some (.int .i64 ((rd_T39 l1 x5_1).f1)) ∧ w'.cell? ⟨(ad208.add ((x5_1).toNat * 3)).block, (ad208.add ((x5_1).toNat * 3)).off + 2, none⟩ = some (.int .i64 ((rd_T39 l1 x5_1).f2))) (ds := []) #[false, false, false, false, false, false, false, false, false, false, false, false, false, false, false, false, false, false, false, false, false, false, false, false] (by kernel_rfl) rfl rfl ⟨(blk_cell BK207.out 0).trans rfl, (blk_cell BK207.out 1).trans rfl, (blk_cell BK207.out 2).trans rfl, Xn hw208_0, Xn hw208_1, Xn hw208_2⟩ (fun hHeld => ?_); refine with_tabW spec_l07Holds.tab6 spec_l07Holds.bits6 (fun HT_ HW_ => ?_)
  generalize wr.drew = w22 at BK207 HB hx208_0 hx208_1 hx208_2 hHeld ⊢
  refine Xpu 1 16 (XW.bs 24 2) HT_.out ?_
  refine Xpu 2 17 (XW.bs 24 6) HT_.out ?_
  refine Xpu 3 18 (XW.bs 24 14) HT_.out ?_
  refine Xta 0 15 (XW.bs 24 15) HT_.out HW_.out hHeld ?_
  refine Xta 4 19 (XW.bs 24 31) HT_.out HW_.out hHeld ?_
  refine one_ (i := 5) (N := some 20) (XW.bs 24 63) rfl rfl (one_of HT_.out (by kernel_rfl)) (by decide) (fun K hK => ?_)
  refine goes_ Tryz.func171 (by kernel_rfl) rfl #[.agg #[.int .i64 a0_0, .int .i64 a0_1, .slice A0_2 l0_2.length c0_2], .agg #[.int .i64 ((rd_T39 l1 x5_1).f0), .int .i64 ((rd_T39 l1 x5_1).f1), .int .i64 ((rd_T39 l1 x5_1).f2)]] (by rfl) rfl rfl (by (try simp only [List.map_toArray, List.map_cons, List.map_nil]); first | done | rfl | (simp only [List.length_drop, List.length_take]; rfl)) ?_
  with_reducible refine (spec_l07Hold.calls k1 a0_0 a0_1 _ _ l0_2 ((rd_T39 l1 x5_1).f0) ((rd_T39 l1 x5_1).f1) ((rd_T39 l1 x5_1).f2) false _ ?side1 ?side2 A8.out).mono ?_
  (case side1 => exact Xc HR0_2)
  (case side2 => exact HC0_2.out)
  rintro e w23 ⟨rfl, hb⟩
  refine ⟨_, rfl, ?_⟩
  replace BK207 := Xbb BK207 hb
  replace HB := Aside0.mk (below_step Xi hb)
  try clear hb
  try clear hb2
  try clear hk
  try clear hi
  refine hK.out _ _ ⟨(blk_cell BK207.out 0).trans rfl, (blk_cell BK207.out 1).trans rfl, (blk_cell BK207.out 2).trans rfl, Xn hw208_0, Xn hw208_1, Xn hw208_2⟩ (fun hHeld => ?_)
  clear hK K
  refine Xno ?_
  refine Xpu 6 21 (XW.bs 24 127) HT_.out ?_
  refine Xpu 7 22 (XW.bs 24 255) HT_.out ?_
  refine Xpn 8 23 (XW.bs 24 511) HT_.out ?_
  refine Xpn 9 24 (XW.bs 24 1023) HT_.out ?_
  refine Xpn 10 25 (XW.bs 24 2047) HT_.out ?_
  refine Xpn 11 26 (XW.bs 24 4095) HT_.out ?_
  refine Xpn 12 27 (XW.bs 24 8191) HT_.out ?_
  refine Xpn 13 28 (XW.bs 24 16383) HT_.out ?_
  refine Xpn 14 29 (XW.bs 24 32767) HT_.out ?_
  refine Xpn 15 30 (XW.bs 24 65535) HT_.out ?_
  refine Xpn 16 31 (XW.bs 24 131071) HT_.out ?_
  refine Xpn 17 32 (XW.bs 24 262143) HT_.out ?_
  refine Xpn 18 33 (XW.bs 24 524287) HT_.out ?_
  refine Xpn 19 34 (XW.bs 24 1048575) HT_.out ?_
  refine Xpn 20 35 (XW.bs 24 2097151) HT_.out ?_
  refine Xpn 21 36 (XW.bs 24 4194303) HT_.out ?_
  refine Xpn 22 37 (XW.bs 24 8388607) HT_.out ?_
  refine Xpu 23 38 (XW.bs 24 16777215) HT_.out ?_
  refine done_ (done_of HT_.out (by kernel_rfl)) ?_
  try go_wp2_with (fail)
  go_ret
  exact ⟨Xe, Xi⟩
 obtain rfl := Option.some.inj H
 go_wp2
 go_ret
 exact ⟨Xe, Xi⟩
def spec_HoldsOK.f (k : Nat) (a0_0 : Int) (a0_1 : Int) (l0_2 : List (S113)) (l1 : List (S39)) : Option (Bool) := if (l1.length : Int) > 4096 then (some false) else ((spec_l02OK.f k a0_0 a0_1 l0_2).bind fun t214 => (if t214 = true then ((spec_l07Holds.f k a0_0 a0_1 l0_2 l1).bind fun t215 => (some t215)) else (some false)))
theorem spec_HoldsOK.calls (k : Nat) (a0_0 : Int) (a0_1 : Int) (A0_2 : Option Addr) (c0_2 : Nat) (l0_2 : List (S113)) (A1 : Option Addr) (c1 : Nat) (l1 : List (S39)) (r : Bool) (w : World) (hr0_2 : Kd.C k113 w A0_2 l0_2.length l0_2) (hc0_2 : l0_2.length ≤ c0_2) (hr1 : Kd.C k39 w A1 l1.length l1) (hc1 : l1.length ≤ c1) (h : spec_HoldsOK.f k a0_0 a0_1 l0_2 l1 = some r) :
  Calls Tryz.prog 87 #[.agg #[.int .i64 a0_0, .int .i64 a0_1, .slice A0_2 l0_2.length c0_2], .slice A1 l1.length c1] w fun e w' => e = .returned (.bool r) ∧ Below w.heap.size w w' := by
 have hu35 := Tryz.underlying35
 have HR0_2 := Aside0.mk hr0_2
 have HC0_2 := Aside0.mk hc0_2
 clear hr0_2 hc0_2
 have HR1 := Aside0.mk hr1
 have HC1 := Aside0.mk hc1
 clear hr1 hc1
 have HB := Aside0.mk (Below.refl w.heap.size w)
 have H : (if (l1.length : Int) > 4096 then (some false) else ((spec_l02OK.f k a0_0 a0_1 l0_2).bind fun t214 => (if t214 = true then ((spec_l07Holds.f k a0_0 a0_1 l0_2 l1).bind fun t215 => (some t215)) else (some false)))) = some r := h
 clear h
 have HC3 := Aside0.mk H
 clear H
 go_enter Tryz.func87, Tryz.ntmps87
 go_upto_if 7 with (first | ((with_reducible refine gate_dst (N := 2) rfl ?_); refine Xbox 2 #[.int .i64 a0_0, .int .i64 a0_1, .slice A0_2 l0_2.length c0_2] 35 ?_; intro gb213 hg w4 hbox hb; have BK213 := Aside0.mk (hbox); have GE213 := Xge hg Xi; replace HB := Aside0.mk (below_step Xi hb); clear hb hbox hg))
 have H := HC3.out
 clear HC3
 obtain ⟨c5, H⟩ | ⟨c5, H⟩ := Xiu H
 ·have c5b0 : decide (4096 < (l1.length : Int)) = true := decide_eq_true c5
  have c5b1 : decide (4096 < l1.length) = true := decide_eq_true (by omega)
  clear c5
  (first | rw [c5b0] | (simp only [i64_w, i32_w]; rw [c5b0]) | skip)
  obtain rfl := Option.some.inj H
  go_wp2
  go_ret
  exact ⟨Xe, Xi⟩
 have c5b0 : decide (4096 < (l1.length : Int)) = false := decide_eq_false c5
 have c5b1 : decide (4096 < l1.length) = false := decide_eq_false (by omega)
 clear c5
 (first | rw [c5b0] | (simp only [i64_w, i32_w]; rw [c5b0]) | skip)
 obtain ⟨t214, A6, H⟩ := Xbi H
 try dsimp only at H
 by_cases c7 : t214 = true
 ·subst c7
  try rw [if_pos rfl] at H
  obtain ⟨t215, A8, H⟩ := Xbi H
  try dsimp only at H
  obtain rfl := Option.some.inj H
  obtain ⟨hcz9_0, hcz9_1, hcz9_2⟩ := Xc3 BK213
  go_wp2_with (first | ((with_reducible refine gate_callee (f := 143) rfl ?_); refine Xgo 9 Tryz.func143 #[.agg #[.int .i64 a0_0, .int .i64 a0_1, .slice A0_2 l0_2.length c0_2]] ?_; (with_reducible refine (spec_l02OK.calls k a0_0 a0_1 _ _ l0_2 true _ ?side1 ?side2 A6.out).mono ?_); (case side1 => exact Xc HR0_2); (case side2 => exact HC0_2.out); rintro e w10 ⟨rfl, hb⟩; refine ⟨_, rfl, ?_⟩; replace BK213 := Xbb BK213 hb; replace HB := Aside0.mk (below_step Xi hb); clear hb; obtain ⟨hcz11_0, hcz11_1, hcz11_2⟩ := Xc3 BK213) | (go_at_call 144; (with_reducible refine (spec_l07Holds.calls k a0_0 a0_1 _ _ l0_2 _ _ l1 t215 _ ?side1 ?side2 ?side3 ?side4 A8.out).mono ?_); (case side1 => exact Xc HR0_2); (case side2 => exact HC0_2.out); (case side3 => exact Xc HR1); (case side4 => exact HC1.out); rintro e w12 ⟨rfl, hb⟩; replace BK213 := Xbb BK213 hb; replace HB := Aside0.mk (below_step Xi hb); clear hb))
  go_ret
  exact ⟨Xe, Xi⟩
 replace c7 := Bool.eq_false_iff.mpr c7
 subst c7
 try rw [if_neg (show ¬ (false = true) by decide)] at H
 obtain rfl := Option.some.inj H
 obtain ⟨hcz13_0, hcz13_1, hcz13_2⟩ := Xc3 BK213
 go_wp2_with (first | ((with_reducible refine gate_callee (f := 143) rfl ?_); refine Xgo 9 Tryz.func143 #[.agg #[.int .i64 a0_0, .int .i64 a0_1, .slice A0_2 l0_2.length c0_2]] ?_; (with_reducible refine (spec_l02OK.calls k a0_0 a0_1 _ _ l0_2 false _ ?side1 ?side2 A6.out).mono ?_); (case side1 => exact Xc HR0_2); (case side2 => exact HC0_2.out); rintro e w14 ⟨rfl, hb⟩; refine ⟨_, rfl, ?_⟩; replace BK213 := Xbb BK213 hb; replace HB := Aside0.mk (below_step Xi hb); clear hb))
 go_ret
 exact ⟨Xe, Xi⟩
mutual
def spec_l08Waits.l0 : Nat → List (S39) → Int → Int → Int → List (S113) → Option (Bool)
 | 0, _, _, _, _, _ => none
 | k + 1, x1, x5, x217000, x217001, x217002 => if x5 < (x1.length : Int) then (if 0 ≤ x5 then ((spec_l07Hold.f k x217000 x217001 x217002 ((rd_T39 x1 x5).f0) ((rd_T39 x1 x5).f1) ((rd_T39 x1 x5).f2)).bind fun t218 => (if t218 = true then (spec_l08Waits.l1 k x1 x5 0 x217000 x217001 x217002) else (some false))) else (none)) else (some true)
def spec_l08Waits.l1 : Nat → List (S39) → Int → Int → Int → Int → List (S113) → Option (Bool)
 | 0, _, _, _, _, _, _ => none
 | k + 1, x1, x5, x6, x217000, x217001, x217002 => if x6 < x5 then (if 0 ≤ x6 then (if x6 < (x1.length : Int) then (if 0 ≤ x5 then (if x5 < (x1.length : Int) then (if ((rd_T39 x1 x6).f0) = ((rd_T39 x1 x5).f0) then (some false) else (spec_l08Waits.l1 k x1 x5 (wrap64 (x6 + 1)) x217000 x217001 x217002)) else (none)) else (none)) else (none)) else (none)) else (spec_l08Waits.l0 k x1 (wrap64 (x5 + 1)) x217000 x217001 x217002)
end
def spec_l08Waits.f (k : Nat) (a0_0 : Int) (a0_1 : Int) (l0_2 : List (S113)) (l1 : List (S39)) : Option (Bool) := if (l1.length : Int) > 6 then (some false) else (spec_l08Waits.l0 k l1 0 a0_0 a0_1 l0_2)
def spec_l08Waits.T11 : Bool × List (List Nat × List Nat) := (true, [([], []), ([], []), ([0, 1], [0, 1]), ([2], [2]), ([3], [3]), ([], []), ([], []), ([5, 6], [5, 6]), ([7], [7]), ([8], [8]), ([4, 9], [4, 9])])
def spec_l08Waits.B11 : List Nat := [0, 0, 3, 7, 15, 0, 0, 96, 224, 480, 1023]
theorem spec_l08Waits.tab11 : rtab .any (opsOf Tryz.f149 11) = spec_l08Waits.T11 := by kernel_rfl
theorem spec_l08Waits.bits11 : waitsOk spec_l08Waits.T11.2 spec_l08Waits.B11 = true := by kernel_rfl
theorem spec_l08Waits.calls (k : Nat) (a0_0 : Int) (a0_1 : Int) (A0_2 : Option Addr) (c0_2 : Nat) (l0_2 : List (S113)) (A1 : Option Addr) (c1 : Nat) (l1 : List (S39)) (r : Bool) (w : World) (hr0_2 : Kd.C k113 w A0_2 l0_2.length l0_2) (hc0_2 : l0_2.length ≤ c0_2) (hr1 : Kd.C k39 w A1 l1.length l1) (hc1 : l1.length ≤ c1) (h : spec_l08Waits.f k a0_0 a0_1 l0_2 l1 = some r) :
  Calls Tryz.prog 149 #[.agg #[.int .i64 a0_0, .int .i64 a0_1, .slice A0_2 l0_2.length c0_2], .slice A1 l1.length c1] w fun e w' => e = .returned (.bool r) ∧ Below w.heap.size w w' := by
 have hu35 := Tryz.underlying35
 have hu39 := Tryz.underlying39
 have HR0_2 := Aside0.mk hr0_2
 have HC0_2 := Aside0.mk hc0_2
 clear hr0_2 hc0_2
 have HR1 := Aside0.mk hr1
 have HC1 := Aside0.mk hc1
 clear hr1 hc1
 have HB := Aside0.mk (Below.refl w.heap.size w)
 have H : (if (l1.length : Int) > 6 then (some false) else (spec_l08Waits.l0 k l1 0 a0_0 a0_1 l0_2)) = some r := h
 clear h
 have HC3 := Aside0.mk H
 clear H
 go_enter Tryz.func149, Tryz.ntmps149
 go_upto_if 9 with (first | ((with_reducible refine gate_dst (N := 2) rfl ?_); refine Xbox 2 #[.int .i64 a0_0, .int .i64 a0_1, .slice A0_2 l0_2.length c0_2] 35 ?_; intro gb216 hg w4 hbox hb; have BK216 := Aside0.mk (hbox); have GE216 := Xge hg Xi; replace HB := Aside0.mk (below_step Xi hb); clear hb hbox hg))
 have H := HC3.out
 clear HC3
 obtain ⟨c5, H⟩ | ⟨c5, H⟩ := Xiu H
 ·have c5b0 : decide (6 < (l1.length : Int)) = true := decide_eq_true c5
  have c5b1 : decide (6 < l1.length) = true := decide_eq_true (by omega)
  clear c5
  (first | rw [c5b0] | (simp only [i64_w, i32_w]; rw [c5b0]) | skip)
  obtain rfl := Option.some.inj H
  go_wp2
  go_ret
  exact ⟨Xe, Xi⟩
 have c5b0 : decide (6 < (l1.length : Int)) = false := decide_eq_false c5
 have c5b1 : decide (6 < l1.length) = false := decide_eq_false (by omega)
 clear c5
 (first | rw [c5b0] | (simp only [i64_w, i32_w]; rw [c5b0]) | skip)
 have H' := Aside0.mk H
 clear H
 go_wp2
 go_loopg [5] k (fun kq v5 w' => ∃ (x5_1 : Int), v5 = .int .i64 x5_1 ∧ Aside0 (spec_l08Waits.l0 kq l1 x5_1 a0_0 a0_1 l0_2 = some r) ∧ Aside0 (kq ≤ k) ∧ Aside0 (w'.heap[gb216]? = some (.cells #[.int .i64 a0_0, .int .i64 a0_1, (.slice A0_2 l0_2.length c0_2)] 35 (0, 0))) ∧ Aside0 (Below w.heap.size w w'))
 case atStart => exact ⟨(0), Xr, H', Xkr, BK216, ⟨Xi⟩⟩
 clear H'
 (try clear c1); (try clear c5); (try clear c5b0); (try clear c5b1)
 obtain ⟨x5_1, rfl, HA, HK1, BK216, HB⟩ := hrel
 cases gk with | zero => cases HA.out | succ k1 => ?_
 have H := HA.out
 clear HA
 simp only [spec_l08Waits.l0] at H
 obtain ⟨c6b0, H⟩ | ⟨c6b0, H⟩ := Xit H
 ·obtain ⟨c7b0, H⟩ := Xid H
  obtain ⟨t218, A8, H⟩ := Xbi H
  try dsimp only at H
  have HC9 := Aside0.mk H
  clear H
  try go_wp2_with (fail)
  replace BK216 := Aside0.mk (blk_drew BK216.out)
  replace HB := Aside0.mk (below_drew1 HB.out)
  have p217 : 0 ≤ (x5_1 : Int) := of_decide_eq_true Xa
  have q217 : x5_1 < (l1.length : Int) := of_decide_eq_true Xa
  obtain ⟨ad217, e217, hx217_0, hx217_1, hx217_2⟩ := at_T39 HR1.out x5_1 p217 q217
  have hw217_2 := hx217_2
  have hw217_1 := hx217_1
  have hw217_0 := hx217_0
  cases e217
  replace hx217_0 := Xm HB hx217_0
  replace hx217_1 := Xm HB hx217_1
  replace hx217_2 := Xm HB hx217_2
  replace p217 := eq_true p217
  replace q217 := eq_true q217
  refine start_ (n := 7) (S := fun w' => w'.cell? ⟨gb216, 0, none⟩ = some (.int .i64 a0_0) ∧ w'.cell? ⟨gb216, 1, none⟩ = some (.int .i64 a0_1) ∧ w'.cell? ⟨gb216, 2, none⟩ = some (.slice A0_2 l0_2.length c0_2) ∧ w'.cell? (ad217.add ((x5_1).toNat * 3)) = some (.int .i64 ((rd_T39 l1 x5_1).f0)) ∧ w'.cell? ⟨(ad217.add ((x5_1).toNat * 3)).block, (ad217.add ((x5_1).toNat * 3)).off + 1, none⟩ = some (.int .i64 ((rd_T39 l1 x5_1).f1)) ∧ w'.cell? ⟨(ad217.add ((x5_1).toNat * 3)).block, (ad217.add ((x5_1).toNat * 3)).off + 2, none⟩ = some (.int .i64 ((rd_T39 l1 x5_1).f2))) (ds := []) #[false, false, false, false, false, false, false] (by kernel_rfl) rfl rfl ⟨(blk_cell BK216.out 0).trans rfl, (blk_cell BK216.out 1).trans rfl, (blk_cell BK216.out 2).trans rfl, Xn hw217_0, Xn hw217_1, Xn hw217_2⟩ (fun hHeld => ?_)
  generalize wr.drew = w10 at BK216 HB hx217_0 hx217_1 hx217_2 hHeld ⊢
  refine pure_ (i := 1) (N := some 17) (v := ?_) (a' := ?_) (XW.bs 7 2) rfl rfl (by kernel_rfl) (fun _ _ _ h => h) (Or.inl ⟨by rfl, ?_⟩) ?_ ?_
  rotate_left
  ·intro w'
   go_simp
   with_reducible rfl
  rotate_left
  ·simp only [XW.q0, XW.q1, XW.q2, i64_w, i32_w]
   rfl
  refine pure_ (i := 2) (N := some 18) (v := ?_) (a' := ?_) (XW.bs 7 6) rfl rfl (by kernel_rfl) (fun _ _ _ h => h) (Or.inl ⟨by rfl, ?_⟩) ?_ ?_
  rotate_left
  ·intro w'
   go_simp
   with_reducible rfl
  rotate_left
  ·simp only [XW.q0, XW.q1, XW.q2, i64_w, i32_w]
   rfl
  refine pure_ (i := 3) (N := some 19) (v := ?_) (a' := ?_) (XW.bs 7 14) rfl rfl (by kernel_rfl) (fun _ _ _ h => h) (Or.inl ⟨by rfl, ?_⟩) ?_ ?_
  rotate_left
  ·intro w'
   go_simp
   with_reducible rfl
  rotate_left
  ·simp only [XW.q0, XW.q1, XW.q2, i64_w, i32_w]
   rfl
  refine take_ (i := 0) (N := some 16) (v := ?_) (a' := ?_) (XW.bs 7 15) rfl rfl (by kernel_rfl) (fun _ _ _ h => h) (Or.inl ⟨by rfl, ?_⟩) hHeld ?_ ?_
  rotate_left
  ·rintro w' ⟨s0, s1, s2, s3, s4, s5⟩
   go_simp
   with_reducible rfl
  rotate_left
  ·simp only [XW.q0, XW.q1, XW.q2, i64_w, i32_w]
   rfl
  refine take_ (i := 4) (N := some 20) (v := ?_) (a' := ?_) (XW.bs 7 31) rfl rfl (by kernel_rfl) (fun _ _ _ h => h) (Or.inl ⟨by rfl, ?_⟩) hHeld ?_ ?_
  rotate_left
  ·rintro w' ⟨s0, s1, s2, s3, s4, s5⟩
   go_simp
   with_reducible rfl
  rotate_left
  ·simp only [XW.q0, XW.q1, XW.q2, i64_w, i32_w]
   rfl
  refine one_ (i := 5) (N := some 21) (XW.bs 7 63) rfl rfl (by kernel_rfl) (by decide) (fun K hK => ?_)
  refine goes_ Tryz.func171 (by kernel_rfl) rfl #[.agg #[.int .i64 a0_0, .int .i64 a0_1, .slice A0_2 l0_2.length c0_2], .agg #[.int .i64 ((rd_T39 l1 x5_1).f0), .int .i64 ((rd_T39 l1 x5_1).f1), .int .i64 ((rd_T39 l1 x5_1).f2)]] (by rfl) rfl rfl (by (try simp only [List.map_toArray, List.map_cons, List.map_nil]); first | done | rfl | (simp only [List.length_drop, List.length_take]; rfl)) ?_
  with_reducible refine (spec_l07Hold.calls k1 a0_0 a0_1 _ _ l0_2 ((rd_T39 l1 x5_1).f0) ((rd_T39 l1 x5_1).f1) ((rd_T39 l1 x5_1).f2) t218 _ ?side1 ?side2 A8.out).mono ?_
  (case side1 => exact Xc HR0_2)
  (case side2 => exact HC0_2.out)
  rintro e w11 ⟨rfl, hb⟩
  refine ⟨_, rfl, ?_⟩
  replace BK216 := Xbb BK216 hb
  replace HB := Aside0.mk (below_step Xi hb)
  try clear hb
  try clear hb2
  try clear hk
  try clear hi
  refine hK.out _ _ ⟨(blk_cell BK216.out 0).trans rfl, (blk_cell BK216.out 1).trans rfl, (blk_cell BK216.out 2).trans rfl, Xn hw217_0, Xn hw217_1, Xn hw217_2⟩ (fun hHeld => ?_)
  clear hK K
  refine Xno ?_
  refine pure_ (i := 6) (N := some 22) (v := ?_) (a' := ?_) (XW.bs 7 127) rfl rfl (by kernel_rfl) (fun _ _ _ h => h) (Or.inl ⟨by rfl, ?_⟩) ?_ ?_
  rotate_left
  ·intro w'
   go_simp
   with_reducible rfl
  rotate_left
  ·simp only [XW.q0, XW.q1, XW.q2, i64_w, i32_w]
   rfl
  refine done_ (by kernel_rfl) ?_
  go_upto_if 22 with (fail)
  have H := HC9.out
  clear HC9
  by_cases c12 : t218 = true
  ·subst c12
   try rw [if_pos rfl] at H
   have H' := Aside0.mk H
   clear H
   go_wp2
   go_loopg [6] k1 (fun kq v6 w' => ∃ (x6_2 : Int), v6 = .int .i64 x6_2 ∧ Aside0 (spec_l08Waits.l1 kq l1 x5_1 x6_2 a0_0 a0_1 l0_2 = some r) ∧ Aside0 (kq ≤ k1) ∧ Aside0 (w'.heap[gb216]? = some (.cells #[.int .i64 a0_0, .int .i64 a0_1, (.slice A0_2 l0_2.length c0_2)] 35 (0, 0))) ∧ Aside0 (Below w.heap.size w w'))
   case atStart => exact ⟨(0), Xr, H', Xkr, BK216, ⟨Xi⟩⟩
   clear H'
   (try clear c1); (try clear c5); (try clear c5b0); (try clear c5b1); (try clear c6); (try clear c6b0); (try clear c7); (try clear c7b0); (try clear c12); (try clear hx217_0); (try clear hx217_1); (try clear hx217_2); (try clear p217); (try clear q217)
   obtain ⟨x6_2, rfl, HA, HK2, BK216, HB⟩ := hrel
   cases gk with | zero => cases HA.out | succ k2 => ?_
   have H := HA.out
   clear HA
   simp only [spec_l08Waits.l1] at H
   obtain ⟨c13b0, H⟩ | ⟨c13b0, H⟩ := Xit H
   ·(first | rw [c13b0] | (simp only [i64_w, i32_w]; rw [c13b0]) | skip)
    obtain ⟨c14b0, H⟩ := Xid H
    obtain ⟨c15b0, H⟩ := Xid H
    obtain ⟨c16b0, H⟩ := Xid H
    obtain ⟨c17b0, H⟩ := Xid H
    obtain ⟨c18, H⟩ | ⟨c18, H⟩ := Xiu H
    ·have c18b0 : (((rd_T39 l1 x6_2).f0) == ((rd_T39 l1 x5_1).f0)) = true := beq_iff_eq.mpr c18
     have c18b1 : (((rd_T39 l1 x6_2).f0) != ((rd_T39 l1 x5_1).f0)) = false := bne_eq_false_iff_eq.mpr c18
     clear c18
     obtain rfl := Option.some.inj H
     try go_wp2_with (fail)
     replace BK216 := Aside0.mk (blk_drew BK216.out)
     replace HB := Aside0.mk (below_drew1 HB.out)
     have p219 : 0 ≤ (x6_2 : Int) := of_decide_eq_true Xa
     have q219 : x6_2 < (l1.length : Int) := of_decide_eq_true Xa
     obtain ⟨ad219, e219, hx219_0, hx219_1, hx219_2⟩ := at_T39 HR1.out x6_2 p219 q219
     have hw219_2 := hx219_2
     have hw219_1 := hx219_1
     have hw219_0 := hx219_0
     obtain rfl : ad217 = ad219 := (by injection e219)
     replace hx219_0 := Xm HB hx219_0
     replace hx219_1 := Xm HB hx219_1
     replace hx219_2 := Xm HB hx219_2
     replace p219 := eq_true p219
     replace q219 := eq_true q219
     have p220 : 0 ≤ (x5_1 : Int) := of_decide_eq_true Xa
     have q220 : x5_1 < (l1.length : Int) := of_decide_eq_true Xa
     obtain ⟨ad220, e220, hx220_0, hx220_1, hx220_2⟩ := at_T39 HR1.out x5_1 p220 q220
     have hw220_2 := hx220_2
     have hw220_1 := hx220_1
     have hw220_0 := hx220_0
     obtain rfl : ad217 = ad220 := (by injection e220)
     replace hx220_0 := Xm HB hx220_0
     replace hx220_1 := Xm HB hx220_1
     replace hx220_2 := Xm HB hx220_2
     replace p220 := eq_true p220
     replace q220 := eq_true q220
     refine start_ (n := 11) (S := fun w' => w'.cell? (ad217.add ((x6_2).toNat * 3)) = some (.int .i64 ((rd_T39 l1 x6_2).f0)) ∧ w'.cell? ⟨(ad217.add ((x6_2).toNat * 3)).block, (ad217.add ((x6_2).toNat * 3)).off + 1, none⟩ = some (.int .i64 ((rd_T39 l1 x6_2).f1)) ∧ w'.cell? ⟨(ad217.add ((x6_2).toNat * 3)).block, (ad217.add ((x6_2).toNat * 3)).off + 2, none⟩ = some (.int .i64 ((rd_T39 l1 x6_2).f2)) ∧ w'.cell? (ad217.add ((x5_1).toNat * 3)) = some (.int .i64 ((rd_T39 l1 x5_1).f0)) ∧ w'.cell? ⟨(ad217.add ((x5_1).toNat * 3)).block, (ad217.add ((x5_1).toNat * 3)).off + 1, none⟩ = some (.int .i64 ((rd_T39 l1 x5_1).f1)) ∧ w'.cell? ⟨(ad217.add ((x5_1).toNat * 3)).block, (ad217.add ((x5_1).toNat * 3)).off + 2, none⟩ = some (.int .i64 ((rd_T39 l1 x5_1).f2))) (ds := []) #[false, false, false, false, false, false, false, false, false, false, false] (by kernel_rfl) rfl rfl ⟨Xn hw219_0, Xn hw219_1, Xn hw219_2, Xn hw220_0, Xn hw220_1, Xn hw220_2⟩ (fun hHeld => ?_); refine with_tabW spec_l08Waits.tab11 spec_l08Waits.bits11 (fun HT_ HW_ => ?_)
     generalize wr.drew = w19 at BK216 HB hx219_0 hx219_1 hx219_2 hx220_0 hx220_1 hx220_2 hHeld ⊢
     refine Xpu 0 28 (XW.bs 11 1) HT_.out ?_
     refine Xpu 1 29 (XW.bs 11 3) HT_.out ?_
     refine Xpu 2 30 (XW.bs 11 7) HT_.out ?_
     refine Xpu 3 31 (XW.bs 11 15) HT_.out ?_
     refine Xpu 5 33 (XW.bs 11 47) HT_.out ?_
     refine Xpu 6 34 (XW.bs 11 111) HT_.out ?_
     refine Xpu 7 35 (XW.bs 11 239) HT_.out ?_
     refine Xpu 8 36 (XW.bs 11 495) HT_.out ?_
     refine Xta 4 32 (XW.bs 11 511) HT_.out HW_.out hHeld ?_
     refine Xta 9 37 (XW.bs 11 1023) HT_.out HW_.out hHeld ?_
     refine Xpu 10 38 (XW.bs 11 2047) HT_.out ?_
     refine done_ (done_of HT_.out (by kernel_rfl)) ?_
     try go_wp2_with (fail)
     go_ret
     exact ⟨Xe, Xi⟩
    have c18b0 : (((rd_T39 l1 x6_2).f0) == ((rd_T39 l1 x5_1).f0)) = false := beq_eq_false_iff_ne.mpr c18
    have c18b1 : (((rd_T39 l1 x6_2).f0) != ((rd_T39 l1 x5_1).f0)) = true := bne_iff_ne.mpr c18
    have H' := Aside0.mk H
    clear H
    try go_wp2_with (fail)
    replace BK216 := Aside0.mk (blk_drew BK216.out)
    replace HB := Aside0.mk (below_drew1 HB.out)
    have p219 : 0 ≤ (x6_2 : Int) := of_decide_eq_true Xa
    have q219 : x6_2 < (l1.length : Int) := of_decide_eq_true Xa
    obtain ⟨ad219, e219, hx219_0, hx219_1, hx219_2⟩ := at_T39 HR1.out x6_2 p219 q219
    have hw219_2 := hx219_2
    have hw219_1 := hx219_1
    have hw219_0 := hx219_0
    obtain rfl : ad217 = ad219 := (by injection e219)
    replace hx219_0 := Xm HB hx219_0
    replace hx219_1 := Xm HB hx219_1
    replace hx219_2 := Xm HB hx219_2
    replace p219 := eq_true p219
    replace q219 := eq_true q219
    have p220 : 0 ≤ (x5_1 : Int) := of_decide_eq_true Xa
    have q220 : x5_1 < (l1.length : Int) := of_decide_eq_true Xa
    obtain ⟨ad220, e220, hx220_0, hx220_1, hx220_2⟩ := at_T39 HR1.out x5_1 p220 q220
    have hw220_2 := hx220_2
    have hw220_1 := hx220_1
    have hw220_0 := hx220_0
    obtain rfl : ad217 = ad220 := (by injection e220)
    replace hx220_0 := Xm HB hx220_0
    replace hx220_1 := Xm HB hx220_1
    replace hx220_2 := Xm HB hx220_2
    replace p220 := eq_true p220
    replace q220 := eq_true q220
    refine start_ (n := 11) (S := fun w' => w'.cell? (ad217.add ((x6_2).toNat * 3)) = some (.int .i64 ((rd_T39 l1 x6_2).f0)) ∧ w'.cell? ⟨(ad217.add ((x6_2).toNat * 3)).block, (ad217.add ((x6_2).toNat * 3)).off + 1, none⟩ = some (.int .i64 ((rd_T39 l1 x6_2).f1)) ∧ w'.cell? ⟨(ad217.add ((x6_2).toNat * 3)).block, (ad217.add ((x6_2).toNat * 3)).off + 2, none⟩ = some (.int .i64 ((rd_T39 l1 x6_2).f2)) ∧ w'.cell? (ad217.add ((x5_1).toNat * 3)) = some (.int .i64 ((rd_T39 l1 x5_1).f0)) ∧ w'.cell? ⟨(ad217.add ((x5_1).toNat * 3)).block, (ad217.add ((x5_1).toNat * 3)).off + 1, none⟩ = some (.int .i64 ((rd_T39 l1 x5_1).f1)) ∧ w'.cell? ⟨(ad217.add ((x5_1).toNat * 3)).block, (ad217.add ((x5_1).toNat * 3)).off + 2, none⟩ = some (.int .i64 ((rd_T39 l1 x5_1).f2))) (ds := []) #[false, false, false, false, false, false, false, false, false, false, false] (by kernel_rfl) rfl rfl ⟨Xn hw219_0, Xn hw219_1, Xn hw219_2, Xn hw220_0, Xn hw220_1, Xn hw220_2⟩ (fun hHeld => ?_); refine with_tabW spec_l08Waits.tab11 spec_l08Waits.bits11 (fun HT_ HW_ => ?_)
    generalize wr.drew = w20 at BK216 HB hx219_0 hx219_1 hx219_2 hx220_0 hx220_1 hx220_2 hHeld ⊢
    refine Xpu 0 28 (XW.bs 11 1) HT_.out ?_
    refine Xpu 1 29 (XW.bs 11 3) HT_.out ?_
    refine Xpu 2 30 (XW.bs 11 7) HT_.out ?_
    refine Xpu 3 31 (XW.bs 11 15) HT_.out ?_
    refine Xpu 5 33 (XW.bs 11 47) HT_.out ?_
    refine Xpu 6 34 (XW.bs 11 111) HT_.out ?_
    refine Xpu 7 35 (XW.bs 11 239) HT_.out ?_
    refine Xpu 8 36 (XW.bs 11 495) HT_.out ?_
    refine Xta 4 32 (XW.bs 11 511) HT_.out HW_.out hHeld ?_
    refine Xta 9 37 (XW.bs 11 1023) HT_.out HW_.out hHeld ?_
    refine Xpu 10 38 (XW.bs 11 2047) HT_.out ?_
    refine done_ (done_of HT_.out (by kernel_rfl)) ?_
    try go_wp2_with (fail)
    go_roundg k2
    case measure => have := HK1.out; have := HK2.out; omega
    case rel => exact ⟨(wrap64 (x6_2 + 1)), Xr, H', ⟨by have := HK1.out; have := HK2.out; omega⟩, BK216, ⟨Xi⟩⟩
   (first | rw [c13b0] | (simp only [i64_w, i32_w]; rw [c13b0]) | skip)
   have H' := Aside0.mk H
   clear H
   go_wp2
   go_roundg k2
   case measure => have := HK1.out; have := HK2.out; omega
   case rel => exact ⟨(wrap64 (x5_1 + 1)), Xr, H', ⟨by have := HK1.out; have := HK2.out; omega⟩, BK216, ⟨Xi⟩⟩
  replace c12 := Bool.eq_false_iff.mpr c12
  subst c12
  try rw [if_neg (show ¬ (false = true) by decide)] at H
  obtain rfl := Option.some.inj H
  go_wp2
  go_ret
  exact ⟨Xe, Xi⟩
 obtain rfl := Option.some.inj H
 go_wp2
 go_ret
 exact ⟨Xe, Xi⟩
def spec_TableOK.f (k : Nat) (a0_0 : Int) (a0_1 : Int) (l0_2 : List (S113)) (l1_0 : List (S39)) (l1_1 : List (S39)) : Option (Bool) := (spec_HoldsOK.f k a0_0 a0_1 l0_2 l1_0).bind fun t223 => (if t223 = true then ((spec_l08Waits.f k a0_0 a0_1 l0_2 l1_1).bind fun t224 => (some t224)) else (some false))
theorem spec_TableOK.calls (k : Nat) (a0_0 : Int) (a0_1 : Int) (A0_2 : Option Addr) (c0_2 : Nat) (l0_2 : List (S113)) (A1_0 : Option Addr) (c1_0 : Nat) (l1_0 : List (S39)) (A1_1 : Option Addr) (c1_1 : Nat) (l1_1 : List (S39)) (r : Bool) (w : World) (hr0_2 : Kd.C k113 w A0_2 l0_2.length l0_2) (hc0_2 : l0_2.length ≤ c0_2) (hr1_0 : Kd.C k39 w A1_0 l1_0.length l1_0) (hc1_0 : l1_0.length ≤ c1_0) (hr1_1 : Kd.C k39 w A1_1 l1_1.length l1_1) (hc1_1 : l1_1.length ≤ c1_1) (h : spec_TableOK.f k a0_0 a0_1 l0_2 l1_0 l1_1 = some r) :
  Calls Tryz.prog 102 #[.agg #[.int .i64 a0_0, .int .i64 a0_1, .slice A0_2 l0_2.length c0_2], .agg #[.slice A1_0 l1_0.length c1_0, .slice A1_1 l1_1.length c1_1]] w fun e w' => e = .returned (.bool r) ∧ Below w.heap.size w w' := by
 have hu35 := Tryz.underlying35
 have hu53 := Tryz.underlying53
 have HR0_2 := Aside0.mk hr0_2
 have HC0_2 := Aside0.mk hc0_2
 clear hr0_2 hc0_2
 have HR1_0 := Aside0.mk hr1_0
 have HC1_0 := Aside0.mk hc1_0
 clear hr1_0 hc1_0
 have HR1_1 := Aside0.mk hr1_1
 have HC1_1 := Aside0.mk hc1_1
 clear hr1_1 hc1_1
 have HB := Aside0.mk (Below.refl w.heap.size w)
 have H : ((spec_HoldsOK.f k a0_0 a0_1 l0_2 l1_0).bind fun t223 => (if t223 = true then ((spec_l08Waits.f k a0_0 a0_1 l0_2 l1_1).bind fun t224 => (some t224)) else (some false))) = some r := h
 clear h
 have HC3 := Aside0.mk H
 clear H
 go_enter Tryz.func102, Tryz.ntmps102
 go_upto_region 1 with (first | ((with_reducible refine gate_dst (N := 2) rfl ?_); refine Xbox 2 #[.int .i64 a0_0, .int .i64 a0_1, .slice A0_2 l0_2.length c0_2] 35 ?_; intro gb221 hg w4 hbox hb; have BK221 := Aside0.mk (hbox); have GE221 := Xge hg Xi; replace HB := Aside0.mk (below_step Xi hb); clear hb hbox hg) | ((with_reducible refine gate_dst (N := 3) rfl ?_); refine Xbox 3 #[.slice A1_0 l1_0.length c1_0, .slice A1_1 l1_1.length c1_1] 53 ?_; intro gb222 hg w5 hbox hb; have BK222 := Aside0.mk (hbox); have GE222 := Xge hg Xi; replace HB := Aside0.mk (below_step Xi hb); have NB221_222 := Xnb hg BK221; have NB222_221 := Xns NB221_222; replace BK221 := Xbb BK221 hb; clear hb hbox hg))
 have H := HC3.out
 clear HC3
 obtain ⟨t223, A6, H⟩ := Xbi H
 try dsimp only at H
 by_cases c7 : t223 = true
 ·subst c7
  try rw [if_pos rfl] at H
  obtain ⟨t224, A8, H⟩ := Xbi H
  try dsimp only at H
  obtain rfl := Option.some.inj H
  have hnb9 := NB221_222.out
  have hnc9 := NB222_221.out
  obtain ⟨hcz10_0, hcz10_1, hcz10_2⟩ := Xc3 BK221
  obtain ⟨hcz11_0, hcz11_1⟩ := Xc2 BK222
  go_wp2_with (first | ((with_reducible refine gate_callee (f := 87) rfl ?_); refine Xgo 8 Tryz.func87 #[.agg #[.int .i64 a0_0, .int .i64 a0_1, .slice A0_2 l0_2.length c0_2], .slice A1_0 l1_0.length c1_0] ?_; (with_reducible refine (spec_HoldsOK.calls k a0_0 a0_1 _ _ l0_2 _ _ l1_0 true _ ?side1 ?side2 ?side3 ?side4 A6.out).mono ?_); (case side1 => exact Xc HR0_2); (case side2 => exact HC0_2.out); (case side3 => exact Xc HR1_0); (case side4 => exact HC1_0.out); rintro e w12 ⟨rfl, hb⟩; refine ⟨_, rfl, ?_⟩; replace BK221 := Xbb BK221 hb; replace BK222 := Xbb BK222 hb; replace HB := Aside0.mk (below_step Xi hb); clear hb; obtain ⟨hcz13_0, hcz13_1, hcz13_2⟩ := Xc3 BK221; obtain ⟨hcz14_0, hcz14_1⟩ := Xc2 BK222) | (go_at_call 149; (with_reducible refine (spec_l08Waits.calls k a0_0 a0_1 _ _ l0_2 _ _ l1_1 t224 _ ?side1 ?side2 ?side3 ?side4 A8.out).mono ?_); (case side1 => exact Xc HR0_2); (case side2 => exact HC0_2.out); (case side3 => exact Xc HR1_1); (case side4 => exact HC1_1.out); rintro e w15 ⟨rfl, hb⟩; replace BK221 := Xbb BK221 hb; replace BK222 := Xbb BK222 hb; replace HB := Aside0.mk (below_step Xi hb); clear hb))
  go_ret
  exact ⟨Xe, Xi⟩
 replace c7 := Bool.eq_false_iff.mpr c7
 subst c7
 try rw [if_neg (show ¬ (false = true) by decide)] at H
 obtain rfl := Option.some.inj H
 have hnb16 := NB221_222.out
 have hnc16 := NB222_221.out
 obtain ⟨hcz17_0, hcz17_1, hcz17_2⟩ := Xc3 BK221
 obtain ⟨hcz18_0, hcz18_1⟩ := Xc2 BK222
 go_wp2_with (first | ((with_reducible refine gate_callee (f := 87) rfl ?_); refine Xgo 8 Tryz.func87 #[.agg #[.int .i64 a0_0, .int .i64 a0_1, .slice A0_2 l0_2.length c0_2], .slice A1_0 l1_0.length c1_0] ?_; (with_reducible refine (spec_HoldsOK.calls k a0_0 a0_1 _ _ l0_2 _ _ l1_0 false _ ?side1 ?side2 ?side3 ?side4 A6.out).mono ?_); (case side1 => exact Xc HR0_2); (case side2 => exact HC0_2.out); (case side3 => exact Xc HR1_0); (case side4 => exact HC1_0.out); rintro e w19 ⟨rfl, hb⟩; refine ⟨_, rfl, ?_⟩; replace BK221 := Xbb BK221 hb; replace BK222 := Xbb BK222 hb; replace HB := Aside0.mk (below_step Xi hb); clear hb))
 go_ret
 exact ⟨Xe, Xi⟩
def spec_l08Ask.f (k : Nat) (a0_0 : Int) (a0_1 : Int) (l0_2 : List (S113)) (l1_0 : List (S39)) (l1_1 : List (S39)) (a2 : Int) : Option (Int) := (spec_TableOK.f k a0_0 a0_1 l0_2 l1_0 l1_1).bind fun t227 => (if t227 = true then ((spec_l01In.f a2 1 999).bind fun t228 => (if t228 = true then (some 0) else (some 4))) else (some 1))
theorem spec_l08Ask.calls (k : Nat) (a0_0 : Int) (a0_1 : Int) (A0_2 : Option Addr) (c0_2 : Nat) (l0_2 : List (S113)) (A1_0 : Option Addr) (c1_0 : Nat) (l1_0 : List (S39)) (A1_1 : Option Addr) (c1_1 : Nat) (l1_1 : List (S39)) (a2 : Int) (r : Int) (w : World) (hr0_2 : Kd.C k113 w A0_2 l0_2.length l0_2) (hc0_2 : l0_2.length ≤ c0_2) (hr1_0 : Kd.C k39 w A1_0 l1_0.length l1_0) (hc1_0 : l1_0.length ≤ c1_0) (hr1_1 : Kd.C k39 w A1_1 l1_1.length l1_1) (hc1_1 : l1_1.length ≤ c1_1) (h : spec_l08Ask.f k a0_0 a0_1 l0_2 l1_0 l1_1 a2 = some r) :
  Calls Tryz.prog 54 #[.agg #[.int .i64 a0_0, .int .i64 a0_1, .slice A0_2 l0_2.length c0_2], .agg #[.slice A1_0 l1_0.length c1_0, .slice A1_1 l1_1.length c1_1], .int .i64 a2] w fun e w' => e = .returned (.int .i64 r) ∧ Below w.heap.size w w' := by
 have hu35 := Tryz.underlying35
 have hu53 := Tryz.underlying53
 have HR0_2 := Aside0.mk hr0_2
 have HC0_2 := Aside0.mk hc0_2
 clear hr0_2 hc0_2
 have HR1_0 := Aside0.mk hr1_0
 have HC1_0 := Aside0.mk hc1_0
 clear hr1_0 hc1_0
 have HR1_1 := Aside0.mk hr1_1
 have HC1_1 := Aside0.mk hc1_1
 clear hr1_1 hc1_1
 have HB := Aside0.mk (Below.refl w.heap.size w)
 have H : ((spec_TableOK.f k a0_0 a0_1 l0_2 l1_0 l1_1).bind fun t227 => (if t227 = true then ((spec_l01In.f a2 1 999).bind fun t228 => (if t228 = true then (some 0) else (some 4))) else (some 1))) = some r := h
 clear h
 obtain ⟨t227, A4, H⟩ := Xbi H
 try dsimp only at H
 have HC5 := Aside0.mk H
 clear H
 go_enter Tryz.func54, Tryz.ntmps54
 go_upto_if 10 with (first | ((with_reducible refine gate_dst (N := 3) rfl ?_); refine Xbox 3 #[.int .i64 a0_0, .int .i64 a0_1, .slice A0_2 l0_2.length c0_2] 35 ?_; intro gb225 hg w6 hbox hb; have BK225 := Aside0.mk (hbox); have GE225 := Xge hg Xi; replace HB := Aside0.mk (below_step Xi hb); clear hb hbox hg) | ((with_reducible refine gate_dst (N := 4) rfl ?_); refine Xbox 4 #[.slice A1_0 l1_0.length c1_0, .slice A1_1 l1_1.length c1_1] 53 ?_; intro gb226 hg w7 hbox hb; have BK226 := Aside0.mk (hbox); have GE226 := Xge hg Xi; replace HB := Aside0.mk (below_step Xi hb); have NB225_226 := Xnb hg BK225; have NB226_225 := Xns NB225_226; replace BK225 := Xbb BK225 hb; clear hb hbox hg; have hnb8 := NB225_226.out; have hnc8 := NB226_225.out; obtain ⟨hcz9_0, hcz9_1, hcz9_2⟩ := Xc3 BK225; obtain ⟨hcz10_0, hcz10_1⟩ := Xc2 BK226) | ((with_reducible refine gate_callee (f := 102) rfl ?_); refine Xgo 9 Tryz.func102 #[.agg #[.int .i64 a0_0, .int .i64 a0_1, .slice A0_2 l0_2.length c0_2], .agg #[.slice A1_0 l1_0.length c1_0, .slice A1_1 l1_1.length c1_1]] ?_; (with_reducible refine (spec_TableOK.calls k a0_0 a0_1 _ _ l0_2 _ _ l1_0 _ _ l1_1 t227 _ ?side1 ?side2 ?side3 ?side4 ?side5 ?side6 A4.out).mono ?_); (case side1 => exact Xc HR0_2); (case side2 => exact HC0_2.out); (case side3 => exact Xc HR1_0); (case side4 => exact HC1_0.out); (case side5 => exact Xc HR1_1); (case side6 => exact HC1_1.out); rintro e w11 ⟨rfl, hb⟩; refine ⟨_, rfl, ?_⟩; replace BK225 := Xbb BK225 hb; replace BK226 := Xbb BK226 hb; replace HB := Aside0.mk (below_step Xi hb); clear hb))
 have H := HC5.out
 clear HC5
 by_cases c12 : t227 = true
 ·subst c12
  try rw [if_pos rfl] at H
  obtain ⟨t228, A13, H⟩ := Xbi H
  try dsimp only at H
  have HC14 := Aside0.mk H
  clear H
  go_upto_if 13 with (first | ((with_reducible refine gate_callee (f := 88) rfl ?_); refine Xgo 12 Tryz.func88 #[.int .i64 a2, .int .i64 1, .int .i64 999] ?_; (with_reducible refine (spec_l01In.calls a2 1 999 t228 _ A13.out).mono ?_); rintro e w' ⟨rfl, ⟨nd, rfl⟩⟩; refine ⟨_, rfl, ?_⟩))
  have H := HC14.out
  clear HC14
  by_cases c15 : t228 = true
  ·subst c15
   try rw [if_pos rfl] at H
   obtain rfl := Option.some.inj H
   go_wp2
   go_ret
   exact ⟨Xe, Xi⟩
  replace c15 := Bool.eq_false_iff.mpr c15
  subst c15
  try rw [if_neg (show ¬ (false = true) by decide)] at H
  obtain rfl := Option.some.inj H
  go_wp2
  go_ret
  exact ⟨Xe, Xi⟩
 replace c12 := Bool.eq_false_iff.mpr c12
 subst c12
 try rw [if_neg (show ¬ (false = true) by decide)] at H
 obtain rfl := Option.some.inj H
 go_wp2
 go_ret
 exact ⟨Xe, Xi⟩
def spec_l08At.l0 : Nat → Int → Int → List (S39) → List (S39) → Option (Int)
 | 0, _, _, _, _ => none
 | k + 1, x1, x5, x230000, x230001 => if x5 < (x230001.length : Int) then (if 0 ≤ x5 then (if ((rd_T39 x230001 x5).f0) = x1 then (some x5) else (spec_l08At.l0 k x1 (wrap64 (x5 + 1)) x230000 x230001)) else (none)) else (some (-1))
def spec_l08At.f (k : Nat) (l0_0 : List (S39)) (l0_1 : List (S39)) (a1 : Int) : Option (Int) := spec_l08At.l0 k a1 0 l0_0 l0_1
theorem spec_l08At.calls (k : Nat) (A0_0 : Option Addr) (c0_0 : Nat) (l0_0 : List (S39)) (A0_1 : Option Addr) (c0_1 : Nat) (l0_1 : List (S39)) (a1 : Int) (r : Int) (w : World) (hr0_0 : Kd.C k39 w A0_0 l0_0.length l0_0) (hc0_0 : l0_0.length ≤ c0_0) (hr0_1 : Kd.C k39 w A0_1 l0_1.length l0_1) (hc0_1 : l0_1.length ≤ c0_1) (h : spec_l08At.f k l0_0 l0_1 a1 = some r) :
  Calls Tryz.prog 55 #[.agg #[.slice A0_0 l0_0.length c0_0, .slice A0_1 l0_1.length c0_1], .int .i64 a1] w fun e w' => e = .returned (.int .i64 r) ∧ Below w.heap.size w w' := by
 have hu53 := Tryz.underlying53
 have HR0_0 := Aside0.mk hr0_0
 have HC0_0 := Aside0.mk hc0_0
 clear hr0_0 hc0_0
 have HR0_1 := Aside0.mk hr0_1
 have HC0_1 := Aside0.mk hc0_1
 clear hr0_1 hc0_1
 have HB := Aside0.mk (Below.refl w.heap.size w)
 have H : (spec_l08At.l0 k a1 0 l0_0 l0_1) = some r := h
 clear h
 have H' := Aside0.mk H
 clear H
 go_enter Tryz.func55, Tryz.ntmps55
 go_wp2_with (first | ((with_reducible refine gate_dst (N := 2) rfl ?_); refine Xbox 2 #[.slice A0_0 l0_0.length c0_0, .slice A0_1 l0_1.length c0_1] 53 ?_; intro gb229 hg w3 hbox hb; have BK229 := Aside0.mk (hbox); have GE229 := Xge hg Xi; replace HB := Aside0.mk (below_step Xi hb); clear hb hbox hg))
 go_loopg [5] k (fun kq v5 w' => ∃ (x5_1 : Int), v5 = .int .i64 x5_1 ∧ Aside0 (spec_l08At.l0 kq a1 x5_1 l0_0 l0_1 = some r) ∧ Aside0 (kq ≤ k) ∧ Aside0 (w'.heap[gb229]? = some (.cells #[(.slice A0_0 l0_0.length c0_0), (.slice A0_1 l0_1.length c0_1)] 53 (0, 0))) ∧ Aside0 (Below w.heap.size w w'))
 case atStart => exact ⟨(0), Xr, H', Xkr, BK229, ⟨Xi⟩⟩
 clear H'
 obtain ⟨x5_1, rfl, HA, HK1, BK229, HB⟩ := hrel
 cases gk with | zero => cases HA.out | succ k1 => ?_
 have H := HA.out
 clear HA
 simp only [spec_l08At.l0] at H
 obtain ⟨c4b0, H⟩ | ⟨c4b0, H⟩ := Xit H
 ·obtain ⟨c5b0, H⟩ := Xid H
  obtain ⟨c6, H⟩ | ⟨c6, H⟩ := Xiu H
  ·have c6b0 : (((rd_T39 l0_1 x5_1).f0) == a1) = true := beq_iff_eq.mpr c6
   have c6b1 : (((rd_T39 l0_1 x5_1).f0) != a1) = false := bne_eq_false_iff_eq.mpr c6
   clear c6
   obtain rfl := Option.some.inj H
   obtain ⟨hcz7_0, hcz7_1⟩ := Xc2 BK229
   obtain ⟨ad230, e230, p230, q230, hx230_0, hx230_1, hx230_2⟩ := at_B39 HR0_1 x5_1 Xa Xa HB
   cases e230
   go_wp2
   go_ret
   exact ⟨Xe, Xi⟩
  have c6b0 : (((rd_T39 l0_1 x5_1).f0) == a1) = false := beq_eq_false_iff_ne.mpr c6
  have c6b1 : (((rd_T39 l0_1 x5_1).f0) != a1) = true := bne_iff_ne.mpr c6
  have H' := Aside0.mk H
  clear H
  obtain ⟨hcz8_0, hcz8_1⟩ := Xc2 BK229
  obtain ⟨ad230, e230, p230, q230, hx230_0, hx230_1, hx230_2⟩ := at_B39 HR0_1 x5_1 Xa Xa HB
  cases e230
  go_wp2
  go_roundg k1
  case measure => have := HK1.out; omega
  case rel => exact ⟨(wrap64 (x5_1 + 1)), Xr, H', Xk1, BK229, ⟨Xi⟩⟩
 obtain rfl := Option.some.inj H
 obtain ⟨hcz9_0, hcz9_1⟩ := Xc2 BK229
 go_wp2
 go_ret
 exact ⟨Xe, Xi⟩
def spec_l07Sessions.l0 : Nat → List (S39) → List Int → Int → Option (List Int)
 | 0, _, _, _ => none
 | k + 1, x0, x3, x4 => if x4 < (x0.length : Int) then (if (x3.length : Int) = 0 then (if 0 ≤ x4 then (if x3.length < 17592186044416 then (spec_l07Sessions.l0 k x0 (x3 ++ [(rd_T39 x0 x4).f0]) (wrap64 (x4 + 1))) else (none)) else (none)) else (if 0 ≤ (wrap64 ((x3.length : Int) - 1)) then (if (wrap64 ((x3.length : Int) - 1)) < (x3.length : Int) then (if 0 ≤ x4 then (if (rd x3 (wrap64 ((x3.length : Int) - 1))) = ((rd_T39 x0 x4).f0) then (spec_l07Sessions.l0 k x0 x3 (wrap64 (x4 + 1))) else (if x3.length < 17592186044416 then (spec_l07Sessions.l0 k x0 (x3 ++ [(rd_T39 x0 x4).f0]) (wrap64 (x4 + 1))) else (none))) else (none)) else (none)) else (none))) else (some x3)
def spec_l07Sessions.f (k : Nat) (l0 : List (S39)) : Option (List Int) := spec_l07Sessions.l0 k l0 (([] : List Int)) 0
theorem spec_l07Sessions.calls (k : Nat) (A0 : Option Addr) (c0 : Nat) (l0 : List (S39)) (r : List Int) (w : World) (hr0 : Kd.C k39 w A0 l0.length l0) (hc0 : l0.length ≤ c0) (h : spec_l07Sessions.f k l0 = some r) :
  Calls Tryz.prog 90 #[.slice A0 l0.length c0] w fun e w' => ∃ v0_ : Value, e = .returned (v0_) ∧ Kd.R (Kd.int .i64) 3 w' w.heap.size (fun _ => True) v0_ r ∧ Below w.heap.size w w' := by
 have HR0 := Aside0.mk hr0
 have HC0 := Aside0.mk hc0
 clear hr0 hc0
 have HB := Aside0.mk (Below.refl w.heap.size w)
 have H : (spec_l07Sessions.l0 k l0 (([] : List Int)) 0) = some r := h
 clear h
 obtain ⟨y231, hy231⟩ : ∃ y_ : List Int, y_ = (([] : List Int)) := ⟨_, rfl⟩
 replace H : (spec_l07Sessions.l0 k l0 y231 0) = some r := by first | (rw [hy231]; with_reducible exact H) | (have H2_ := (Option.bind_some _ _).symm.trans H; rw [hy231]; with_reducible exact H2_) | (have H2_ := (Option.bind_some _ _).symm.trans H; with_reducible exact H2_) | with_reducible exact H | (rw [hy231]; exact H) | exact H
 have Ny231 := Aside0.mk hy231
 clear hy231
 have H' := Aside0.mk H
 clear H
 go_enter Tryz.func90, Tryz.ntmps90
 go_wp2_with (first | ((with_reducible refine gate_dst (N := 5) rfl ?_); (try (refine gate_guard (by rfl) ?_; dsimp only)); refine Kd.R_lit (Kd.int .i64) _ 3 ?hg (N := 5) ?hd (xs := ([] : List Int)) (inner := []) (ok := fun _ => True) (okp := fun _ => True) ?hr ?hp (fun _ hk => hk) trivial (Below.refl _ _) (Nat.le_refl _) (by simp) ?_; (case hd => rfl); (case hg => rfl); (case hr => first | (go_simp; done) | (go_simp; rfl)); (case hp => exact (Reps.none _ _)); intro v232 w2 ho3 hb hg_ hnew_; clear hg_ hnew_; (first | rw [← Ny231.out] at ho3 | (simp only [Int.reduceToNat] at ho3; rw [← Ny231.out] at ho3)); have HO233 := Aside0.mk (Kd.R_lower ho3 (below_size Xi)); replace HB := Aside0.mk (below_step Xi hb); clear hb ho3))
 repeat (go_quiet (first | ((with_reducible refine gate_dst (N := 5) rfl ?_); (try (refine gate_guard (by rfl) ?_; dsimp only)); refine Kd.R_lit (Kd.int .i64) _ 3 ?hg (N := 5) ?hd (xs := ([] : List Int)) (inner := []) (ok := fun _ => True) (okp := fun _ => True) ?hr ?hp (fun _ hk => hk) trivial (Below.refl _ _) (Nat.le_refl _) (by simp) ?_; (case hd => rfl); (case hg => rfl); (case hr => first | (go_simp; done) | (go_simp; rfl)); (case hp => exact (Reps.none _ _)); intro v232 w2 ho3 hb hg_ hnew_; clear hg_ hnew_; (first | rw [← Ny231.out] at ho3 | (simp only [Int.reduceToNat] at ho3; rw [← Ny231.out] at ho3)); have HO233 := Aside0.mk (Kd.R_lower ho3 (below_size Xi)); replace HB := Aside0.mk (below_step Xi hb); clear hb ho3)); try go_wp2_with (first | ((with_reducible refine gate_dst (N := 5) rfl ?_); (try (refine gate_guard (by rfl) ?_; dsimp only)); refine Kd.R_lit (Kd.int .i64) _ 3 ?hg (N := 5) ?hd (xs := ([] : List Int)) (inner := []) (ok := fun _ => True) (okp := fun _ => True) ?hr ?hp (fun _ hk => hk) trivial (Below.refl _ _) (Nat.le_refl _) (by simp) ?_; (case hd => rfl); (case hg => rfl); (case hr => first | (go_simp; done) | (go_simp; rfl)); (case hp => exact (Reps.none _ _)); intro v232 w2 ho3 hb hg_ hnew_; clear hg_ hnew_; (first | rw [← Ny231.out] at ho3 | (simp only [Int.reduceToNat] at ho3; rw [← Ny231.out] at ho3)); have HO233 := Aside0.mk (Kd.R_lower ho3 (below_size Xi)); replace HB := Aside0.mk (below_step Xi hb); clear hb ho3)))
 go_loopg [3, 4] k (fun kq v3 v4 w' => ∃ (x3_1 : List Int) (x4_1 : Int), v4 = .int .i64 x4_1 ∧ Aside0 (spec_l07Sessions.l0 kq l0 x3_1 x4_1 = some r) ∧ Aside0 (kq ≤ k) ∧ Aside0 (Kd.R (Kd.int .i64) 3 w' w.heap.size (fun _ => True) v3 x3_1) ∧ Aside0 (Below w.heap.size w w'))
 case atStart => exact ⟨(y231), (0), Xr, H', Xkr, (Xp' HO233), ⟨Xi⟩⟩
 clear H'
 obtain ⟨x3_1, x4_1, rfl, HA, HK1, HO_3, HB⟩ := hrel
 cases gk with | zero => cases HA.out | succ k1 => ?_
 have H := HA.out
 clear HA
 simp only [spec_l07Sessions.l0] at H
 obtain ⟨c4b0, H⟩ | ⟨c4b0, H⟩ := Xit H
 ·obtain ⟨c5, H⟩ | ⟨c5, H⟩ := Xiu H
  ·have c5b0 : ((x3_1.length : Int) == 0) = true := beq_iff_eq.mpr c5
   have c5b1 : ((x3_1.length : Int) != 0) = false := bne_eq_false_iff_eq.mpr c5
   clear c5
   obtain ⟨c6b0, H⟩ := Xid H
   obtain ⟨c7, H⟩ := Xif H
   have LMc7 := Aside0.mk c7
   clear c7
   obtain ⟨y235, hy235⟩ : ∃ y_ : List Int, y_ = (x3_1 ++ [(rd_T39 l0 x4_1).f0]) := ⟨_, rfl⟩
   replace H : (spec_l07Sessions.l0 k1 l0 y235 (wrap64 (x4_1 + 1))) = some r := by first | (rw [hy235]; with_reducible exact H) | (have H2_ := (Option.bind_some _ _).symm.trans H; rw [hy235]; with_reducible exact H2_) | (have H2_ := (Option.bind_some _ _).symm.trans H; with_reducible exact H2_) | with_reducible exact H | (rw [hy235]; exact H) | exact H
   have Ny235 := Aside0.mk hy235
   clear hy235
   have H' := Aside0.mk H
   clear H
   obtain ⟨Ao8, co8, eo8⟩ := Kd.R_slice HO_3.out
   subst eo8
   obtain ⟨ad234, e234, p234, q234, hx234_0, hx234_1, hx234_2⟩ := at_B39 HR0 x4_1 Xa Xa HB
   cases e234
   go_wp2_with (first | ((with_reducible refine gate_builtin (b := .append) (xs := #[.tmp 29, .tmp 35]) rfl ?_); (try (refine gate_guard (by rfl) ?_; dsimp only)); at_builtin; refine Kd.R_append (Kd.int .i64) (w0 := w) w.heap.size rfl (.tmp 29) (.tmp 35) 30 3 (.int .i64 0) 8 rfl Tryz.underlying30 info3 rfl (by decide) (by omega) (.slice Ao8 x3_1.length co8) x3_1 ((rd_T39 l0 x4_1).f0) [.int .i64 ((rd_T39 l0 x4_1).f0)] (fun _ => True) (fun _ => False) rfl rfl ?aP (fun _ hk => hk.elim) ?aF ?aO ?aB ?aS ?aL ?_; (case aP => exact rfl); (case aB => exact Xi); (case aF => exact (fun _ _ => trivial)); (case aO => exact (Xq HO_3)); (case aS => exact (below_size Xi)); (case aL => have := LMc7.out; omega); intro v236 w9 ho hb hg hat; rw [← Ny235.out] at ho; replace HB := Aside0.mk (hb); have HO237 := Aside0.mk (ho); clear HO_3; clear ho hb hg hat))
   repeat (go_quiet (first | ((with_reducible refine gate_builtin (b := .append) (xs := #[.tmp 29, .tmp 35]) rfl ?_); (try (refine gate_guard (by rfl) ?_; dsimp only)); at_builtin; refine Kd.R_append (Kd.int .i64) (w0 := w) w.heap.size rfl (.tmp 29) (.tmp 35) 30 3 (.int .i64 0) 8 rfl Tryz.underlying30 info3 rfl (by decide) (by omega) (.slice Ao8 x3_1.length co8) x3_1 ((rd_T39 l0 x4_1).f0) [.int .i64 ((rd_T39 l0 x4_1).f0)] (fun _ => True) (fun _ => False) rfl rfl ?aP (fun _ hk => hk.elim) ?aF ?aO ?aB ?aS ?aL ?_; (case aP => exact rfl); (case aB => exact Xi); (case aF => exact (fun _ _ => trivial)); (case aO => exact (Xq HO_3)); (case aS => exact (below_size Xi)); (case aL => have := LMc7.out; omega); intro v236 w9 ho hb hg hat; rw [← Ny235.out] at ho; replace HB := Aside0.mk (hb); have HO237 := Aside0.mk (ho); clear HO_3; clear ho hb hg hat)); try go_wp2_with (first | ((with_reducible refine gate_builtin (b := .append) (xs := #[.tmp 29, .tmp 35]) rfl ?_); (try (refine gate_guard (by rfl) ?_; dsimp only)); at_builtin; refine Kd.R_append (Kd.int .i64) (w0 := w) w.heap.size rfl (.tmp 29) (.tmp 35) 30 3 (.int .i64 0) 8 rfl Tryz.underlying30 info3 rfl (by decide) (by omega) (.slice Ao8 x3_1.length co8) x3_1 ((rd_T39 l0 x4_1).f0) [.int .i64 ((rd_T39 l0 x4_1).f0)] (fun _ => True) (fun _ => False) rfl rfl ?aP (fun _ hk => hk.elim) ?aF ?aO ?aB ?aS ?aL ?_; (case aP => exact rfl); (case aB => exact Xi); (case aF => exact (fun _ _ => trivial)); (case aO => exact (Xq HO_3)); (case aS => exact (below_size Xi)); (case aL => have := LMc7.out; omega); intro v236 w9 ho hb hg hat; rw [← Ny235.out] at ho; replace HB := Aside0.mk (hb); have HO237 := Aside0.mk (ho); clear HO_3; clear ho hb hg hat)))
   go_roundg k1
   case measure => have := HK1.out; omega
   case rel => exact ⟨(y235), (wrap64 (x4_1 + 1)), Xr, H', Xk1, (Xp' HO237), ⟨Xi⟩⟩
  have c5b0 : ((x3_1.length : Int) == 0) = false := beq_eq_false_iff_ne.mpr c5
  have c5b1 : ((x3_1.length : Int) != 0) = true := bne_iff_ne.mpr c5
  have c5b2 : ¬ (x3_1 = []) := fun h_ => c5 (by rw [h_]; rfl)
  obtain ⟨ji10, hji10⟩ : ∃ j_ : Int, (wrap64 ((x3_1.length : Int) - 1)) = j_ := ⟨_, rfl⟩
  replace H : (if 0 ≤ (ji10) then (if (ji10) < (x3_1.length : Int) then (if 0 ≤ x4_1 then (if (rd x3_1 (ji10)) = ((rd_T39 l0 x4_1).f0) then (spec_l07Sessions.l0 k1 l0 x3_1 (wrap64 (x4_1 + 1))) else (if x3_1.length < 17592186044416 then (spec_l07Sessions.l0 k1 l0 (x3_1 ++ [(rd_T39 l0 x4_1).f0]) (wrap64 (x4_1 + 1))) else (none))) else (none)) else (none)) else (none)) = some r := by first | (rw [hji10] at H; exact H) | (simp only [hji10] at H ⊢; exact H)
  have hji10w : (IntKind.i64.wrap ((x3_1.length : Int) - 1)) = ji10 := (i64_w _).trans hji10
  obtain ⟨c11b0, H⟩ := Xid H
  obtain ⟨c12b0, H⟩ := Xid H
  obtain ⟨c13b0, H⟩ := Xid H
  obtain ⟨c14, H⟩ | ⟨c14, H⟩ := Xiu H
  ·have c14b0 : ((rd x3_1 (ji10)) == ((rd_T39 l0 x4_1).f0)) = true := beq_iff_eq.mpr c14
   have c14b1 : ((rd x3_1 (ji10)) != ((rd_T39 l0 x4_1).f0)) = false := bne_eq_false_iff_eq.mpr c14
   clear c14
   have H' := Aside0.mk H
   clear H
   obtain ⟨Ao15, co15, eo15⟩ := Kd.R_slice HO_3.out
   subst eo15
   have p238 : 0 ≤ ((ji10) : Int) := of_decide_eq_true Xa
   have q238 : (ji10) < (x3_1.length : Int) := of_decide_eq_true Xa
   obtain ⟨ad238, e238, hx238_0⟩ := Kd.at_int (Kd.R_reads' HO_3.out).2.2 (ji10) p238 q238
   cases e238
   replace p238 := eq_true p238
   replace q238 := eq_true q238
   obtain ⟨ad239, e239, p239, q239, hx239_0, hx239_1, hx239_2⟩ := at_B39 HR0 x4_1 Xa Xa HB
   cases e239
   go_wp2
   repeat (go_quiet (fail); try go_wp2)
   go_roundg k1
   case measure => have := HK1.out; omega
   case rel => exact ⟨(x3_1), (wrap64 (x4_1 + 1)), Xr, H', Xk1, (Xp' HO_3), ⟨Xi⟩⟩
  have c14b0 : ((rd x3_1 (ji10)) == ((rd_T39 l0 x4_1).f0)) = false := beq_eq_false_iff_ne.mpr c14
  have c14b1 : ((rd x3_1 (ji10)) != ((rd_T39 l0 x4_1).f0)) = true := bne_iff_ne.mpr c14
  obtain ⟨c16, H⟩ := Xif H
  have LMc16 := Aside0.mk c16
  clear c16
  obtain ⟨y241, hy241⟩ : ∃ y_ : List Int, y_ = (x3_1 ++ [(rd_T39 l0 x4_1).f0]) := ⟨_, rfl⟩
  replace H : (spec_l07Sessions.l0 k1 l0 y241 (wrap64 (x4_1 + 1))) = some r := by first | (rw [hy241]; with_reducible exact H) | (have H2_ := (Option.bind_some _ _).symm.trans H; rw [hy241]; with_reducible exact H2_) | (have H2_ := (Option.bind_some _ _).symm.trans H; with_reducible exact H2_) | with_reducible exact H | (rw [hy241]; exact H) | exact H
  have Ny241 := Aside0.mk hy241
  clear hy241
  have H' := Aside0.mk H
  clear H
  obtain ⟨Ao17, co17, eo17⟩ := Kd.R_slice HO_3.out
  subst eo17
  have p238 : 0 ≤ ((ji10) : Int) := of_decide_eq_true Xa
  have q238 : (ji10) < (x3_1.length : Int) := of_decide_eq_true Xa
  obtain ⟨ad238, e238, hx238_0⟩ := Kd.at_int (Kd.R_reads' HO_3.out).2.2 (ji10) p238 q238
  cases e238
  replace p238 := eq_true p238
  replace q238 := eq_true q238
  obtain ⟨ad239, e239, p239, q239, hx239_0, hx239_1, hx239_2⟩ := at_B39 HR0 x4_1 Xa Xa HB
  cases e239
  obtain ⟨ad240, e240, p240, q240, hx240_0, hx240_1, hx240_2⟩ := at_B39 HR0 x4_1 Xa Xa HB
  obtain rfl : ad239 = ad240 := (by injection e240)
  go_wp2_with (first | ((with_reducible refine gate_builtin (b := .append) (xs := #[.tmp 29, .tmp 35]) rfl ?_); (try (refine gate_guard (by rfl) ?_; dsimp only)); at_builtin; refine Kd.R_append (Kd.int .i64) (w0 := w) w.heap.size rfl (.tmp 29) (.tmp 35) 30 3 (.int .i64 0) 8 rfl Tryz.underlying30 info3 rfl (by decide) (by omega) (.slice (some ad238) x3_1.length co17) x3_1 ((rd_T39 l0 x4_1).f0) [.int .i64 ((rd_T39 l0 x4_1).f0)] (fun _ => True) (fun _ => False) rfl rfl ?aP (fun _ hk => hk.elim) ?aF ?aO ?aB ?aS ?aL ?_; (case aP => exact rfl); (case aB => exact Xi); (case aF => exact (fun _ _ => trivial)); (case aO => exact (Xq HO_3)); (case aS => exact (below_size Xi)); (case aL => have := LMc16.out; omega); intro v242 w18 ho hb hg hat; rw [← Ny241.out] at ho; replace HB := Aside0.mk (hb); have HO243 := Aside0.mk (ho); clear HO_3; clear ho hb hg hat))
  repeat (go_quiet (first | ((with_reducible refine gate_builtin (b := .append) (xs := #[.tmp 29, .tmp 35]) rfl ?_); (try (refine gate_guard (by rfl) ?_; dsimp only)); at_builtin; refine Kd.R_append (Kd.int .i64) (w0 := w) w.heap.size rfl (.tmp 29) (.tmp 35) 30 3 (.int .i64 0) 8 rfl Tryz.underlying30 info3 rfl (by decide) (by omega) (.slice (some ad238) x3_1.length co17) x3_1 ((rd_T39 l0 x4_1).f0) [.int .i64 ((rd_T39 l0 x4_1).f0)] (fun _ => True) (fun _ => False) rfl rfl ?aP (fun _ hk => hk.elim) ?aF ?aO ?aB ?aS ?aL ?_; (case aP => exact rfl); (case aB => exact Xi); (case aF => exact (fun _ _ => trivial)); (case aO => exact (Xq HO_3)); (case aS => exact (below_size Xi)); (case aL => have := LMc16.out; omega); intro v242 w18 ho hb hg hat; rw [← Ny241.out] at ho; replace HB := Aside0.mk (hb); have HO243 := Aside0.mk (ho); clear HO_3; clear ho hb hg hat)); try go_wp2_with (first | ((with_reducible refine gate_builtin (b := .append) (xs := #[.tmp 29, .tmp 35]) rfl ?_); (try (refine gate_guard (by rfl) ?_; dsimp only)); at_builtin; refine Kd.R_append (Kd.int .i64) (w0 := w) w.heap.size rfl (.tmp 29) (.tmp 35) 30 3 (.int .i64 0) 8 rfl Tryz.underlying30 info3 rfl (by decide) (by omega) (.slice (some ad238) x3_1.length co17) x3_1 ((rd_T39 l0 x4_1).f0) [.int .i64 ((rd_T39 l0 x4_1).f0)] (fun _ => True) (fun _ => False) rfl rfl ?aP (fun _ hk => hk.elim) ?aF ?aO ?aB ?aS ?aL ?_; (case aP => exact rfl); (case aB => exact Xi); (case aF => exact (fun _ _ => trivial)); (case aO => exact (Xq HO_3)); (case aS => exact (below_size Xi)); (case aL => have := LMc16.out; omega); intro v242 w18 ho hb hg hat; rw [← Ny241.out] at ho; replace HB := Aside0.mk (hb); have HO243 := Aside0.mk (ho); clear HO_3; clear ho hb hg hat)))
  go_roundg k1
  case measure => have := HK1.out; omega
  case rel => exact ⟨(y241), (wrap64 (x4_1 + 1)), Xr, H', Xk1, (Xp' HO243), ⟨Xi⟩⟩
 obtain rfl := Option.some.inj H
 go_wp2
 repeat (go_quiet (fail); try go_wp2)
 go_ret
 exact ⟨_, Xe, Xq HO_3, Xi⟩
def spec_l07Join.f : Nat → Int → Int → Option (Int)
 | 0, _, _ => none
 | k + 1, a0, a1 => if a0 > a1 then ((spec_l07Join.f k a1 a0).bind fun t244 => (some t244)) else (if a0 = 2 then (if a1 = 3 then (some 4) else (some a1)) else (some a1))
theorem spec_l07Join.calls (k : Nat) : ∀ (a0 : Int) (a1 : Int) (r : Int) (w : World) (h : spec_l07Join.f k a0 a1 = some r),
  Calls Tryz.prog 133 #[.int .i64 a0, .int .i64 a1] w fun e w' => e = .returned (.int .i64 r) ∧ Below w.heap.size w w' := by
 induction k using Nat.strongRecOn with
 | _ k ih =>
 intro a0 a1 r w h
 cases k with
 | zero => exact absurd h (by simp [spec_l07Join.f])
 | succ k =>
 simp only [spec_l07Join.f] at h
 have HB := Aside0.mk (Below.refl w.heap.size w)
 have H : (if a0 > a1 then ((spec_l07Join.f k a1 a0).bind fun t244 => (some t244)) else (if a0 = 2 then (if a1 = 3 then (some 4) else (some a1)) else (some a1))) = some r := h
 clear h
 obtain ⟨c3, H⟩ | ⟨c3, H⟩ := Xiu H
 ·have c3b0 : decide (a1 < a0) = true := decide_eq_true c3
  clear c3
  obtain ⟨t244, A4, H⟩ := Xbi H
  try dsimp only at H
  obtain rfl := Option.some.inj H
  go_enter Tryz.func133, Tryz.ntmps133
  go_wp2_with (first | ((with_reducible refine gate_callee (f := 133) rfl ?_); refine Xgo 10 Tryz.func133 #[.int .i64 a1, .int .i64 a0] ?_; (with_reducible refine (ih k (by omega) a1 a0 t244 _ A4.out).mono ?_); rintro e w5 ⟨rfl, hb⟩; refine ⟨_, rfl, ?_⟩; replace HB := Aside0.mk (below_step Xi hb); clear hb))
  go_ret
  exact ⟨Xe, Xi⟩
 have c3b0 : decide (a1 < a0) = false := decide_eq_false c3
 clear c3
 obtain ⟨c6, H⟩ | ⟨c6, H⟩ := Xiu H
 ·have c6b0 : (a0 == 2) = true := beq_iff_eq.mpr c6
  have c6b1 : (a0 != 2) = false := bne_eq_false_iff_eq.mpr c6
  clear c6
  obtain ⟨c7, H⟩ | ⟨c7, H⟩ := Xiu H
  ·have c7b0 : (a1 == 3) = true := beq_iff_eq.mpr c7
   have c7b1 : (a1 != 3) = false := bne_eq_false_iff_eq.mpr c7
   clear c7
   obtain rfl := Option.some.inj H
   go_enter Tryz.func133, Tryz.ntmps133
   go_wp2
   go_ret
   exact ⟨Xe, Xi⟩
  have c7b0 : (a1 == 3) = false := beq_eq_false_iff_ne.mpr c7
  have c7b1 : (a1 != 3) = true := bne_iff_ne.mpr c7
  obtain rfl := Option.some.inj H
  go_enter Tryz.func133, Tryz.ntmps133
  go_wp2
  go_ret
  exact ⟨Xe, Xi⟩
 have c6b0 : (a0 == 2) = false := beq_eq_false_iff_ne.mpr c6
 have c6b1 : (a0 != 2) = true := bne_iff_ne.mpr c6
 obtain rfl := Option.some.inj H
 go_enter Tryz.func133, Tryz.ntmps133
 go_wp2
 go_ret
 exact ⟨Xe, Xi⟩
def spec_l02Path.l0 : Nat → List Int → Int → Int → Int → List (S113) → Option (List Int)
 | 0, _, _, _, _, _ => none
 | k + 1, x5, x6, x246000, x246001, x246002 => if x6 > 0 then ((some (([x6] : List Int) : List Int)).bind fun y249 => (if y249.length + x5.length < 17592186044416 then ((spec_l02Parent.f k x246000 x246001 x246002 x6).bind fun t255 => (spec_l02Path.l0 k (y249 ++ x5) t255 x246000 x246001 x246002)) else (none))) else (some x5)
def spec_l02Path.f (k : Nat) (a0_0 : Int) (a0_1 : Int) (l0_2 : List (S113)) (a1 : Int) : Option (List Int) := spec_l02Path.l0 k (([] : List Int)) a1 a0_0 a0_1 l0_2
theorem spec_l02Path.calls (k : Nat) (a0_0 : Int) (a0_1 : Int) (A0_2 : Option Addr) (c0_2 : Nat) (l0_2 : List (S113)) (a1 : Int) (r : List Int) (w : World) (hr0_2 : Kd.C k113 w A0_2 l0_2.length l0_2) (hc0_2 : l0_2.length ≤ c0_2) (h : spec_l02Path.f k a0_0 a0_1 l0_2 a1 = some r) :
  Calls Tryz.prog 134 #[.agg #[.int .i64 a0_0, .int .i64 a0_1, .slice A0_2 l0_2.length c0_2], .int .i64 a1] w fun e w' => ∃ v0_ : Value, e = .returned (v0_) ∧ Kd.R (Kd.int .i64) 3 w' w.heap.size (fun _ => True) v0_ r ∧ Below w.heap.size w w' := by
 have hu35 := Tryz.underlying35
 have HR0_2 := Aside0.mk hr0_2
 have HC0_2 := Aside0.mk hc0_2
 clear hr0_2 hc0_2
 have HB := Aside0.mk (Below.refl w.heap.size w)
 have H : (spec_l02Path.l0 k (([] : List Int)) a1 a0_0 a0_1 l0_2) = some r := h
 clear h
 obtain ⟨y246, hy246⟩ : ∃ y_ : List Int, y_ = (([] : List Int)) := ⟨_, rfl⟩
 replace H : (spec_l02Path.l0 k y246 a1 a0_0 a0_1 l0_2) = some r := by first | (rw [hy246]; with_reducible exact H) | (have H2_ := (Option.bind_some _ _).symm.trans H; rw [hy246]; with_reducible exact H2_) | (have H2_ := (Option.bind_some _ _).symm.trans H; with_reducible exact H2_) | with_reducible exact H | (rw [hy246]; exact H) | exact H
 have Ny246 := Aside0.mk hy246
 clear hy246
 have H' := Aside0.mk H
 clear H
 go_enter Tryz.func134, Tryz.ntmps134
 go_wp2_with (first | ((with_reducible refine gate_dst (N := 2) rfl ?_); refine Xbox 2 #[.int .i64 a0_0, .int .i64 a0_1, .slice A0_2 l0_2.length c0_2] 35 ?_; intro gb245 hg w3 hbox hb; have BK245 := Aside0.mk (hbox); have GE245 := Xge hg Xi; replace HB := Aside0.mk (below_step Xi hb); clear hb hbox hg) | ((with_reducible refine gate_dst (N := 7) rfl ?_); refine Kd.R_lit (Kd.int .i64) _ 3 ?hg (N := 7) ?hd (xs := ([] : List Int)) (inner := []) (ok := fun _ => True) (okp := fun _ => True) ?hr ?hp (fun _ hk => hk) trivial (Below.refl _ _) (Nat.le_refl _) (by simp) ?_; (case hd => rfl); (case hg => rfl); (case hr => first | (go_simp; done) | (go_simp; rfl)); (case hp => exact (Reps.none _ _)); intro v247 w4 ho5 hb hg_ hnew_; clear hg_ hnew_; (first | rw [← Ny246.out] at ho5 | (simp only [Int.reduceToNat] at ho5; rw [← Ny246.out] at ho5)); have HO248 := Aside0.mk (Kd.R_lower ho5 (below_size Xi)); replace BK245 := Xbb BK245 hb; replace HB := Aside0.mk (below_step Xi hb); clear hb ho5))
 go_loopg [5, 6] k (fun kq v5 v6 w' => ∃ (x5_1 : List Int) (x6_1 : Int), v6 = .int .i64 x6_1 ∧ Aside0 (spec_l02Path.l0 kq x5_1 x6_1 a0_0 a0_1 l0_2 = some r) ∧ Aside0 (kq ≤ k) ∧ Aside0 (Kd.R (Kd.int .i64) 3 w' w.heap.size (fun _ => True) v5 x5_1) ∧ Aside0 (w'.heap[gb245]? = some (.cells #[.int .i64 a0_0, .int .i64 a0_1, (.slice A0_2 l0_2.length c0_2)] 35 (0, 0))) ∧ Aside0 (Below w.heap.size w w'))
 case atStart => exact ⟨(y246), (a1), Xr, H', Xkr, (Xp' HO248), (Xp BK245), ⟨Xi⟩⟩
 clear H'
 obtain ⟨x5_1, x6_1, rfl, HA, HK1, HO_5, BK245, HB⟩ := hrel
 cases gk with | zero => cases HA.out | succ k1 => ?_
 have H := HA.out
 clear HA
 simp only [spec_l02Path.l0] at H
 obtain ⟨c6, H⟩ | ⟨c6, H⟩ := Xiu H
 ·have c6b0 : decide (0 < x6_1) = true := decide_eq_true c6
  clear c6
  obtain ⟨y249, hy249⟩ : ∃ y_ : List Int, y_ = (([x6_1] : List Int)) := ⟨_, rfl⟩
  replace H : (if y249.length + x5_1.length < 17592186044416 then ((spec_l02Parent.f k1 a0_0 a0_1 l0_2 x6_1).bind fun t255 => (spec_l02Path.l0 k1 (y249 ++ x5_1) t255 a0_0 a0_1 l0_2)) else (none)) = some r := by first | (rw [hy249]; with_reducible exact H) | (have H2_ := (Option.bind_some _ _).symm.trans H; rw [hy249]; with_reducible exact H2_) | (have H2_ := (Option.bind_some _ _).symm.trans H; with_reducible exact H2_) | with_reducible exact H | (rw [hy249]; exact H) | exact H
  have Ny249 := Aside0.mk hy249
  clear hy249
  obtain ⟨c7, H⟩ := Xif H
  have LMc7 := Aside0.mk c7
  clear c7
  obtain ⟨y252, hy252⟩ : ∃ y_ : List Int, y_ = (y249 ++ x5_1) := ⟨_, rfl⟩
  replace H : ((spec_l02Parent.f k1 a0_0 a0_1 l0_2 x6_1).bind fun t255 => (spec_l02Path.l0 k1 y252 t255 a0_0 a0_1 l0_2)) = some r := by first | (rw [hy252]; with_reducible exact H) | (have H2_ := (Option.bind_some _ _).symm.trans H; rw [hy252]; with_reducible exact H2_) | (have H2_ := (Option.bind_some _ _).symm.trans H; with_reducible exact H2_) | with_reducible exact H | (rw [hy252]; exact H) | exact H
  have Ny252 := Aside0.mk hy252
  clear hy252
  obtain ⟨t255, A8, H⟩ := Xbi H
  try dsimp only at H
  have H' := Aside0.mk H
  clear H
  go_wp2_with (first | ((with_reducible refine gate_dst (N := 15) rfl ?_); refine Kd.R_lit (Kd.int .i64) _ 3 ?hg (N := 15) ?hd (xs := ([x6_1] : List Int)) (inner := [.int .i64 x6_1]) (ok := fun _ => True) (okp := fun _ => True) ?hr ?hp (fun _ hk => hk) trivial (Below.refl _ _) (Nat.le_refl _) (by simp) ?_; (case hd => rfl); (case hg => rfl); (case hr => first | (go_simp; done) | (go_simp; rfl)); (case hp => exact (Reps.one (show Kd.M (Kd.int .i64) _ _ _ x6_1 [.int .i64 x6_1] from rfl) (Reps.none _ _))); intro v250 w9 ho10 hb hg_ hnew_; clear hg_ hnew_; (first | rw [← Ny249.out] at ho10 | (simp only [Int.reduceToNat] at ho10; rw [← Ny249.out] at ho10)); have HO251 := Aside0.mk (Kd.R_lower (Kd.R_new' ho10 (Kd.R_lt (Xq HO_5))) (below_size Xi)); replace HO_5 := Aside0.mk (Kd.R_elder' (Xq HO_5) (Kd.R_base ho10) hb); replace BK245 := Xbb BK245 hb; replace HB := Aside0.mk (below_step Xi hb); clear hb ho10; obtain ⟨Ao12, co12, eo12⟩ := Kd.R_slice HO_5.out; subst eo12) | ((with_reducible refine gate_builtin (b := .append) (xs := #[.tmp 15, .tmp 16]) rfl ?_); at_builtin; refine Kd.R_append_rows (Kd.int .i64) (w0 := w) w.heap.size rfl (.tmp 15) (.tmp 16) 30 3 (.int .i64 0) 8 rfl Tryz.underlying30 info3 rfl (by decide) (by omega) v250 y249 x5_1 _ _ _ (fun k_ => some k_ ≠ (.slice Ao12 x5_1.length co12 : Value).ownBlock) (fun _ => False) rfl rfl ?aO ?aR (fun _ _ h => h) (fun _ h => h.elim) ?aF ?aB ?aS ?aL ?_; (case aR => repeat (first | exact (Kd.R_reads' HO_5.out).2.2 | (with_reducible first | refine Kd.C_alloc ?_ _ | refine Kd.C_drewN ?_ _ | refine Kd.C_drew ?_))); (case aB => exact Xi); (case aF => exact (fun k_ hk => Kd.fresh' (Kd.R_lt (Xq HO_5)) k_ hk)); (case aO => exact (by (with_reducible repeat (first | apply Kd.R_alloc | apply Kd.R_drewN | apply Kd.R_drew)); exact Kd.R_mono HO251.out (fun _ hk => hk.2))); (case aS => exact (below_size Xi)); (case aL => have := LMc7.out; omega); intro v253 w11 ho hb hg hat; rw [← Ny252.out] at ho; replace HO_5 := Aside0.mk (Kd.R_after (ok := (fun _ => True)) (Xq HO_5) hg hat); replace BK245 := Aside0.mk (blk_grown (g := gb245) (o := .cells #[.int .i64 a0_0, .int .i64 a0_1, .slice A0_2 l0_2.length c0_2] 35 (0, 0)) (Xq' BK245) hg (Kd.R_ne HO251.out BK245.out (by decide))); replace HB := Aside0.mk (hb); have HO254 := Aside0.mk (ho); clear HO251; clear ho hb hg hat; obtain ⟨hcz13_0, hcz13_1, hcz13_2⟩ := Xc3 BK245) | ((with_reducible refine gate_callee (f := 166) rfl ?_); refine Xgo 13 Tryz.func166 #[.agg #[.int .i64 a0_0, .int .i64 a0_1, .slice A0_2 l0_2.length c0_2], .int .i64 x6_1] ?_; (with_reducible refine (spec_l02Parent.calls k1 a0_0 a0_1 _ _ l0_2 x6_1 t255 _ ?side1 ?side2 A8.out).mono ?_); (case side1 => exact Xc HR0_2); (case side2 => exact HC0_2.out); rintro e w14 ⟨rfl, hb⟩; refine ⟨_, rfl, ?_⟩; replace HO_5 := Aside0.mk (Kd.R_below (Xq HO_5) hb); replace HO254 := Aside0.mk (Kd.R_below (Xq HO254) hb); replace BK245 := Xbb BK245 hb; replace HB := Aside0.mk (below_step Xi hb); clear hb))
  go_roundg k1
  case measure => have := HK1.out; omega
  case rel => exact ⟨(y252), (t255), Xr, H', Xk1, ⟨by (with_reducible repeat (first | apply Kd.R_alloc | apply Kd.R_drewN | apply Kd.R_drew)); exact Kd.R_mono HO254.out (fun _ hk => trivial)⟩, (Xp BK245), ⟨Xi⟩⟩
 have c6b0 : decide (0 < x6_1) = false := decide_eq_false c6
 clear c6
 obtain rfl := Option.some.inj H
 go_wp2
 go_ret
 exact ⟨_, Xe, Xq HO_5, Xi⟩
def spec_l07Intent.f (a0 : Int) : Option (Int) := if a0 = 0 then (some 0) else (if a0 = 1 then (some 1) else (if a0 = 3 then (some 1) else (some 2)))
theorem spec_l07Intent.calls (a0 : Int) (r : Int) (w : World) (h : spec_l07Intent.f a0 = some r) :
  Calls Tryz.prog 135 #[.int .i64 a0] w fun e w' => e = .returned (.int .i64 r) ∧ Drawn0 w w' := by
 have H : (if a0 = 0 then (some 0) else (if a0 = 1 then (some 1) else (if a0 = 3 then (some 1) else (some 2)))) = some r := h
 clear h
 obtain ⟨c2, H⟩ | ⟨c2, H⟩ := Xiu H
 ·have c2b0 : (a0 == 0) = true := beq_iff_eq.mpr c2
  have c2b1 : (a0 != 0) = false := bne_eq_false_iff_eq.mpr c2
  clear c2
  obtain rfl := Option.some.inj H
  go_enter Tryz.func135, Tryz.ntmps135
  go_wp2
  go_ret
  exact ⟨Xr, Xdr⟩
 have c2b0 : (a0 == 0) = false := beq_eq_false_iff_ne.mpr c2
 have c2b1 : (a0 != 0) = true := bne_iff_ne.mpr c2
 obtain ⟨c3, H⟩ | ⟨c3, H⟩ := Xiu H
 ·have c3b0 : (a0 == 1) = true := beq_iff_eq.mpr c3
  have c3b1 : (a0 != 1) = false := bne_eq_false_iff_eq.mpr c3
  clear c3
  obtain rfl := Option.some.inj H
  go_enter Tryz.func135, Tryz.ntmps135
  go_wp2
  go_ret
  exact ⟨Xr, Xdr⟩
 have c3b0 : (a0 == 1) = false := beq_eq_false_iff_ne.mpr c3
 have c3b1 : (a0 != 1) = true := bne_iff_ne.mpr c3
 obtain ⟨c4, H⟩ | ⟨c4, H⟩ := Xiu H
 ·have c4b0 : (a0 == 3) = true := beq_iff_eq.mpr c4
  have c4b1 : (a0 != 3) = false := bne_eq_false_iff_eq.mpr c4
  clear c4
  obtain rfl := Option.some.inj H
  go_enter Tryz.func135, Tryz.ntmps135
  go_wp2
  go_ret
  exact ⟨Xr, Xdr⟩
 have c4b0 : (a0 == 3) = false := beq_eq_false_iff_ne.mpr c4
 have c4b1 : (a0 != 3) = true := bne_iff_ne.mpr c4
 obtain rfl := Option.some.inj H
 go_enter Tryz.func135, Tryz.ntmps135
 go_wp2
 go_ret
 exact ⟨Xr, Xdr⟩
def spec_l07At.l0 : Nat → List (S39) → Int → Int → Int → Int → Int → Int → List (S113) → Option (Int)
 | 0, _, _, _, _, _, _, _, _ => none
 | k + 1, x1, x2, x3, x9, x10, x257000, x257001, x257002 => if x10 < (x1.length : Int) then (if 0 ≤ x10 then (if ((rd_T39 x1 x10).f0) = x2 then (if ((rd_T39 x1 x10).f1) = x3 then ((spec_l07Join.f k x9 ((rd_T39 x1 x10).f2)).bind fun t259 => (spec_l07At.l0 k x1 x2 x3 t259 (wrap64 (x10 + 1)) x257000 x257001 x257002)) else ((spec_l02Path.f k x257000 x257001 x257002 ((rd_T39 x1 x10).f1)).bind fun t260 => ((spec_l02Has.f k t260 x3).bind fun t263 => (if t263 = true then ((spec_l07Intent.f ((rd_T39 x1 x10).f2)).bind fun t264 => ((spec_l07Join.f k x9 t264).bind fun t265 => (spec_l07At.l0 k x1 x2 x3 t265 (wrap64 (x10 + 1)) x257000 x257001 x257002))) else (spec_l07At.l0 k x1 x2 x3 x9 (wrap64 (x10 + 1)) x257000 x257001 x257002))))) else (spec_l07At.l0 k x1 x2 x3 x9 (wrap64 (x10 + 1)) x257000 x257001 x257002)) else (none)) else (some x9)
def spec_l07At.f (k : Nat) (a0_0 : Int) (a0_1 : Int) (l0_2 : List (S113)) (l1 : List (S39)) (a2 : Int) (a3 : Int) : Option (Int) := spec_l07At.l0 k l1 a2 a3 0 0 a0_0 a0_1 l0_2
theorem spec_l07At.calls (k : Nat) (a0_0 : Int) (a0_1 : Int) (A0_2 : Option Addr) (c0_2 : Nat) (l0_2 : List (S113)) (A1 : Option Addr) (c1 : Nat) (l1 : List (S39)) (a2 : Int) (a3 : Int) (r : Int) (w : World) (hr0_2 : Kd.C k113 w A0_2 l0_2.length l0_2) (hc0_2 : l0_2.length ≤ c0_2) (hr1 : Kd.C k39 w A1 l1.length l1) (hc1 : l1.length ≤ c1) (h : spec_l07At.f k a0_0 a0_1 l0_2 l1 a2 a3 = some r) :
  Calls Tryz.prog 77 #[.agg #[.int .i64 a0_0, .int .i64 a0_1, .slice A0_2 l0_2.length c0_2], .slice A1 l1.length c1, .int .i64 a2, .int .i64 a3] w fun e w' => e = .returned (.int .i64 r) ∧ Below w.heap.size w w' := by
 have hu35 := Tryz.underlying35
 have hu39 := Tryz.underlying39
 have HR0_2 := Aside0.mk hr0_2
 have HC0_2 := Aside0.mk hc0_2
 clear hr0_2 hc0_2
 have HR1 := Aside0.mk hr1
 have HC1 := Aside0.mk hc1
 clear hr1 hc1
 have HB := Aside0.mk (Below.refl w.heap.size w)
 have H : (spec_l07At.l0 k l1 a2 a3 0 0 a0_0 a0_1 l0_2) = some r := h
 clear h
 have H' := Aside0.mk H
 clear H
 go_enter Tryz.func77, Tryz.ntmps77
 go_wp2_with (first | ((with_reducible refine gate_dst (N := 4) rfl ?_); refine Xbox 4 #[.int .i64 a0_0, .int .i64 a0_1, .slice A0_2 l0_2.length c0_2] 35 ?_; intro gb256 hg w5 hbox hb; have BK256 := Aside0.mk (hbox); have GE256 := Xge hg Xi; replace HB := Aside0.mk (below_step Xi hb); clear hb hbox hg))
 go_loopg [9, 10] k (fun kq v9 v10 w' => ∃ (x9_1 : Int) (x10_1 : Int), v9 = .int .i64 x9_1 ∧ v10 = .int .i64 x10_1 ∧ Aside0 (spec_l07At.l0 kq l1 a2 a3 x9_1 x10_1 a0_0 a0_1 l0_2 = some r) ∧ Aside0 (kq ≤ k) ∧ Aside0 (w'.heap[gb256]? = some (.cells #[.int .i64 a0_0, .int .i64 a0_1, (.slice A0_2 l0_2.length c0_2)] 35 (0, 0))) ∧ Aside0 (Below w.heap.size w w'))
 case atStart => exact ⟨(0), (0), Xr, Xr, H', Xkr, BK256, ⟨Xi⟩⟩
 clear H'
 try clear c1
 obtain ⟨x9_1, x10_1, rfl, rfl, HA, HK1, BK256, HB⟩ := hrel
 cases gk with | zero => cases HA.out | succ k1 => ?_
 have H := HA.out
 clear HA
 simp only [spec_l07At.l0] at H
 obtain ⟨c6b0, H⟩ | ⟨c6b0, H⟩ := Xit H
 ·obtain ⟨c7b0, H⟩ := Xid H
  have HC8 := Aside0.mk H
  clear H
  obtain ⟨ad257, e257, p257, q257, hx257_0, hx257_1, hx257_2⟩ := at_B39 HR1 x10_1 Xa Xa HB
  cases e257
  go_upto_if 25 with (first | ((with_reducible refine gate_dst (N := 11) rfl ?_); refine Xbox 11 #[.int .i64 0, .int .i64 0, .int .i64 0] 39 ?_; intro gb258 hg w9 hbox hb; have BK258 := Aside0.mk (hbox); have GE258 := Xge hg Xi; replace HB := Aside0.mk (below_step Xi hb); have NB256_258 := Xnb hg BK256; have NB258_256 := Xns NB256_258; replace BK256 := Xbb BK256 hb; clear hb hbox hg; have hnb10 := NB258_256.out; have hnc10 := NB256_258.out; obtain ⟨hcz11_0, hcz11_1, hcz11_2⟩ := Xc3 BK258; obtain ⟨hfz11_0, hfz11_1, hfz11_2⟩ := Xf3 BK258) | ((with_reducible refine gate_store (t := 39) (p := 11) rfl ?_); refine store_event (t := 39) (p := 11) (v := ?vo_w12) (w1 := (((w9.setCell ⟨gb258, 0, none⟩ (.int .i64 ((rd_T39 l1 x10_1).f0))).setCell ⟨gb258, 1, none⟩ (.int .i64 ((rd_T39 l1 x10_1).f1))).setCell ⟨gb258, 2, none⟩ (.int .i64 ((rd_T39 l1 x10_1).f2)))) ?hg ?ho ?hn ?hr ?_; (case ho => rfl); (case hg => rfl); (case hn => rfl); (case hr => first | (go_simp; done) | (go_simp; rfl)); intro w12 hw; have n0_ : Aside0 (w12.heap[gb256]? = some (.cells #[.int .i64 a0_0, .int .i64 a0_1, .slice A0_2 l0_2.length c0_2] 35 (0, 0))) := ⟨(by rw [hw]; exact (by (with_reducible repeat (first | refine blk_drewN ?_ _ | refine blk_drew ?_ | refine blk_alloc ?_ _)); refine blk_far ?_ NB256_258.out _; (with_reducible repeat (first | refine blk_drewN ?_ _ | refine blk_drew ?_ | refine blk_alloc ?_ _)); refine blk_far ?_ NB256_258.out _; (with_reducible repeat (first | refine blk_drewN ?_ _ | refine blk_drew ?_ | refine blk_alloc ?_ _)); refine blk_far ?_ NB256_258.out _; (with_reducible repeat (first | refine blk_drewN ?_ _ | refine blk_drew ?_ | refine blk_alloc ?_ _)); exact BK256.out))⟩; have n1_ : Aside0 (w12.heap[gb258]? = some (.cells #[.int .i64 ((rd_T39 l1 x10_1).f0), .int .i64 ((rd_T39 l1 x10_1).f1), .int .i64 ((rd_T39 l1 x10_1).f2)] 39 (0, 0))) := ⟨(by rw [hw]; exact (by (with_reducible repeat (first | refine blk_drewN ?_ _ | refine blk_drew ?_ | refine blk_alloc ?_ _)); refine blk_put (cs := #[.int .i64 ((rd_T39 l1 x10_1).f0), .int .i64 ((rd_T39 l1 x10_1).f1), .int .i64 0]) ?_ 2 _ rfl; (with_reducible repeat (first | refine blk_drewN ?_ _ | refine blk_drew ?_ | refine blk_alloc ?_ _)); refine blk_put (cs := #[.int .i64 ((rd_T39 l1 x10_1).f0), .int .i64 0, .int .i64 0]) ?_ 1 _ rfl; (with_reducible repeat (first | refine blk_drewN ?_ _ | refine blk_drew ?_ | refine blk_alloc ?_ _)); refine blk_put (cs := #[.int .i64 0, .int .i64 0, .int .i64 0]) ?_ 0 _ rfl; (with_reducible repeat (first | refine blk_drewN ?_ _ | refine blk_drew ?_ | refine blk_alloc ?_ _)); exact BK258.out))⟩; have n2_ : Aside0 (Below w.heap.size w w12) := ⟨(by rw [hw]; exact Xi)⟩; clear hw; clear BK256; clear BK258; clear HB; have BK256 := n0_; have BK258 := n1_; have HB := n2_; clear n0_ n1_ n2_; obtain ⟨hcz13_0, hcz13_1, hcz13_2⟩ := Xc3 BK258; obtain ⟨hfz13_0, hfz13_1, hfz13_2⟩ := Xf3 BK258))
  have H := HC8.out
  clear HC8
  obtain ⟨c14, H⟩ | ⟨c14, H⟩ := Xiu H
  ·have c14b0 : (((rd_T39 l1 x10_1).f0) == a2) = true := beq_iff_eq.mpr c14
   have c14b1 : (((rd_T39 l1 x10_1).f0) != a2) = false := bne_eq_false_iff_eq.mpr c14
   clear c14
   (first | rw [c14b0] | (simp only [i64_w, i32_w]; rw [c14b0]) | skip)
   obtain ⟨c15, H⟩ | ⟨c15, H⟩ := Xiu H
   ·have c15b0 : (((rd_T39 l1 x10_1).f1) == a3) = true := beq_iff_eq.mpr c15
    have c15b1 : (((rd_T39 l1 x10_1).f1) != a3) = false := bne_eq_false_iff_eq.mpr c15
    clear c15
    obtain ⟨t259, A16, H⟩ := Xbi H
    try dsimp only at H
    have H' := Aside0.mk H
    clear H
    have hnb17 := NB258_256.out
    have hnc17 := NB256_258.out
    obtain ⟨hcz18_0, hcz18_1, hcz18_2⟩ := Xc3 BK258
    obtain ⟨hfz18_0, hfz18_1, hfz18_2⟩ := Xf3 BK258
    go_wp2_with (first | ((with_reducible refine gate_callee (f := 133) rfl ?_); refine Xgo 33 Tryz.func133 #[.int .i64 x9_1, .int .i64 ((rd_T39 l1 x10_1).f2)] ?_; (with_reducible refine (spec_l07Join.calls k1 x9_1 ((rd_T39 l1 x10_1).f2) t259 _ A16.out).mono ?_); rintro e w19 ⟨rfl, hb⟩; refine ⟨_, rfl, ?_⟩; replace BK256 := Xbb BK256 hb; replace BK258 := Xbb BK258 hb; replace HB := Aside0.mk (below_step Xi hb); clear hb))
    go_roundg k1
    case measure => have := HK1.out; omega
    case rel => exact ⟨(t259), (wrap64 (x10_1 + 1)), Xr, Xr, H', Xk1, BK256, ⟨Xi⟩⟩
   have c15b0 : (((rd_T39 l1 x10_1).f1) == a3) = false := beq_eq_false_iff_ne.mpr c15
   have c15b1 : (((rd_T39 l1 x10_1).f1) != a3) = true := bne_iff_ne.mpr c15
   obtain ⟨t260, A20, H⟩ := Xbi H
   try dsimp only at H
   obtain ⟨t263, A21, H⟩ := Xbi H
   try dsimp only at H
   have HC22 := Aside0.mk H
   clear H
   have hnb23 := NB258_256.out
   have hnc23 := NB256_258.out
   obtain ⟨hcz24_0, hcz24_1, hcz24_2⟩ := Xc3 BK258
   obtain ⟨hfz24_0, hfz24_1, hfz24_2⟩ := Xf3 BK258
   obtain ⟨hcz25_0, hcz25_1, hcz25_2⟩ := Xc3 BK256
   obtain ⟨hfz25_0, hfz25_1, hfz25_2⟩ := Xf3 BK256
   go_upto_if 39 with (first | ((with_reducible refine gate_callee (f := 134) rfl ?_); refine Xgo 37 Tryz.func134 #[.agg #[.int .i64 a0_0, .int .i64 a0_1, .slice A0_2 l0_2.length c0_2], .int .i64 ((rd_T39 l1 x10_1).f1)] ?_; (with_reducible refine (spec_l02Path.calls k1 a0_0 a0_1 _ _ l0_2 ((rd_T39 l1 x10_1).f1) t260 _ ?side1 ?side2 A20.out).mono ?_); (case side1 => exact Xc HR0_2); (case side2 => exact HC0_2.out); rintro e w26 ⟨v261, rfl, ho0, hb⟩; refine ⟨_, rfl, ?_⟩; have HO262 := Aside0.mk (Kd.R_lower ho0 (below_size Xi)); replace BK256 := Xbb BK256 hb; replace BK258 := Xbb BK258 hb; replace HB := Aside0.mk (below_step Xi hb); clear hb; (try clear ho0); obtain ⟨Ao27, co27, eo27⟩ := Kd.R_slice HO262.out; subst eo27) | ((with_reducible refine gate_callee (f := 104) rfl ?_); refine Xgo 39 Tryz.func104 #[.slice Ao27 t260.length co27, .int .i64 a3] ?_; (with_reducible refine (spec_l02Has.calls k1 _ _ t260 a3 t263 _ ?side1 ?side2 A21.out).mono ?_); (case side1 => repeat (first | exact (Kd.R_reads' HO262.out).2.2 | (with_reducible first | refine Kd.C_alloc ?_ _ | refine Kd.C_drewN ?_ _ | refine Kd.C_drew ?_))); (case side2 => exact (Kd.R_reads' HO262.out).2.1); rintro e w' ⟨rfl, ⟨nd, rfl⟩⟩; refine ⟨_, rfl, ?_⟩))
   have H := HC22.out
   clear HC22
   by_cases c28 : t263 = true
   ·subst c28
    try rw [if_pos rfl] at H
    obtain ⟨t264, A29, H⟩ := Xbi H
    try dsimp only at H
    obtain ⟨t265, A30, H⟩ := Xbi H
    try dsimp only at H
    have H' := Aside0.mk H
    clear H
    have hnb31 := NB258_256.out
    have hnc31 := NB256_258.out
    obtain ⟨hcz32_0, hcz32_1, hcz32_2⟩ := Xc3 BK258
    obtain ⟨hfz32_0, hfz32_1, hfz32_2⟩ := Xf3 BK258
    go_wp2_with (first | ((with_reducible refine gate_callee (f := 135) rfl ?_); refine Xgo 43 Tryz.func135 #[.int .i64 ((rd_T39 l1 x10_1).f2)] ?_; (with_reducible refine (spec_l07Intent.calls ((rd_T39 l1 x10_1).f2) t264 _ A29.out).mono ?_); rintro e w' ⟨rfl, ⟨nd, rfl⟩⟩; refine ⟨_, rfl, ?_⟩) | ((with_reducible refine gate_callee (f := 133) rfl ?_); refine Xgo 44 Tryz.func133 #[.int .i64 x9_1, .int .i64 t264] ?_; (with_reducible refine (spec_l07Join.calls k1 x9_1 t264 t265 _ A30.out).mono ?_); rintro e w33 ⟨rfl, hb⟩; refine ⟨_, rfl, ?_⟩; replace HO262 := Aside0.mk (Kd.R_below (Xq HO262) hb); replace BK256 := Xbb BK256 hb; replace BK258 := Xbb BK258 hb; replace HB := Aside0.mk (below_step Xi hb); clear hb))
    go_roundg k1
    case measure => have := HK1.out; omega
    case rel => exact ⟨(t265), (wrap64 (x10_1 + 1)), Xr, Xr, H', Xk1, BK256, ⟨Xi⟩⟩
   replace c28 := Bool.eq_false_iff.mpr c28
   subst c28
   try rw [if_neg (show ¬ (false = true) by decide)] at H
   have H' := Aside0.mk H
   clear H
   go_wp2
   go_roundg k1
   case measure => have := HK1.out; omega
   case rel => exact ⟨(x9_1), (wrap64 (x10_1 + 1)), Xr, Xr, H', Xk1, BK256, ⟨Xi⟩⟩
  have c14b0 : (((rd_T39 l1 x10_1).f0) == a2) = false := beq_eq_false_iff_ne.mpr c14
  have c14b1 : (((rd_T39 l1 x10_1).f0) != a2) = true := bne_iff_ne.mpr c14
  (first | rw [c14b0] | (simp only [i64_w, i32_w]; rw [c14b0]) | skip)
  have H' := Aside0.mk H
  clear H
  go_wp2
  go_roundg k1
  case measure => have := HK1.out; omega
  case rel => exact ⟨(x9_1), (wrap64 (x10_1 + 1)), Xr, Xr, H', Xk1, BK256, ⟨Xi⟩⟩
 obtain rfl := Option.some.inj H
 go_wp2
 go_ret
 exact ⟨Xe, Xi⟩
def spec_l07Need.f (a0_0 : Int) (a0_1 : Int) (a0_2 : Int) (a1 : Int) : Option (Int) := if a1 = a0_1 then (some a0_2) else ((spec_l07Intent.f a0_2).bind fun t267 => (some t267))
theorem spec_l07Need.calls (a0_0 : Int) (a0_1 : Int) (a0_2 : Int) (a1 : Int) (r : Int) (w : World) (h : spec_l07Need.f a0_0 a0_1 a0_2 a1 = some r) :
  Calls Tryz.prog 145 #[.agg #[.int .i64 a0_0, .int .i64 a0_1, .int .i64 a0_2], .int .i64 a1] w fun e w' => e = .returned (.int .i64 r) ∧ Below w.heap.size w w' := by
 have hu39 := Tryz.underlying39
 have HB := Aside0.mk (Below.refl w.heap.size w)
 have H : (if a1 = a0_1 then (some a0_2) else ((spec_l07Intent.f a0_2).bind fun t267 => (some t267))) = some r := h
 clear h
 have HC3 := Aside0.mk H
 clear H
 go_enter Tryz.func145, Tryz.ntmps145
 go_upto_if 8 with (first | ((with_reducible refine gate_dst (N := 2) rfl ?_); refine Xbox 2 #[.int .i64 a0_0, .int .i64 a0_1, .int .i64 a0_2] 39 ?_; intro gb266 hg w4 hbox hb; have BK266 := Aside0.mk (hbox); have GE266 := Xge hg Xi; replace HB := Aside0.mk (below_step Xi hb); clear hb hbox hg; obtain ⟨hcz5_0, hcz5_1, hcz5_2⟩ := Xc3 BK266))
 have H := HC3.out
 clear HC3
 obtain ⟨c6, H⟩ | ⟨c6, H⟩ := Xiu H
 ·have c6b0 : (a1 == a0_1) = true := beq_iff_eq.mpr c6
  have c6b1 : (a1 != a0_1) = false := bne_eq_false_iff_eq.mpr c6
  clear c6
  (first | rw [c6b0] | (simp only [i64_w, i32_w]; rw [c6b0]) | skip)
  obtain rfl := Option.some.inj H
  obtain ⟨hcz7_0, hcz7_1, hcz7_2⟩ := Xc3 BK266
  go_wp2
  go_ret
  exact ⟨Xe, Xi⟩
 have c6b0 : (a1 == a0_1) = false := beq_eq_false_iff_ne.mpr c6
 have c6b1 : (a1 != a0_1) = true := bne_iff_ne.mpr c6
 (first | rw [c6b0] | (simp only [i64_w, i32_w]; rw [c6b0]) | skip)
 obtain ⟨t267, A8, H⟩ := Xbi H
 try dsimp only at H
 obtain rfl := Option.some.inj H
 obtain ⟨hcz9_0, hcz9_1, hcz9_2⟩ := Xc3 BK266
 go_wp2_with (first | ((with_reducible refine gate_callee (f := 135) rfl ?_); refine Xgo 13 Tryz.func135 #[.int .i64 a0_2] ?_; (with_reducible refine (spec_l07Intent.calls a0_2 t267 _ A8.out).mono ?_); rintro e w' ⟨rfl, ⟨nd, rfl⟩⟩; refine ⟨_, rfl, ?_⟩))
 go_ret
 exact ⟨Xe, Xi⟩
mutual
def spec_l07Fits.j0 : Nat → Int → Int → Bool → Option (Bool)
 | 0, _, _, _ => none
 | k + 1, x0, x1, x10 => if x10 = true then (some true) else (if x0 > x1 then ((spec_l07Fits.f k x1 x0).bind fun t268 => (some t268)) else (if x0 = 1 then (some (x1 != 5)) else (if x0 = 2 then (some (x1 == 2)) else (if x0 = 3 then (some (x1 == 3)) else (some false)))))
def spec_l07Fits.f : Nat → Int → Int → Option (Bool)
 | 0, _, _ => none
 | k + 1, a0, a1 => if a0 = 0 then (spec_l07Fits.j0 k a0 a1 true) else (spec_l07Fits.j0 k a0 a1 (a1 == 0))
end
theorem spec_l07Fits.calls (k : Nat) : ∀ (a0 : Int) (a1 : Int) (r : Bool) (w : World) (h : spec_l07Fits.f k a0 a1 = some r),
  Calls Tryz.prog 146 #[.int .i64 a0, .int .i64 a1] w fun e w' => e = .returned (.bool r) ∧ Below w.heap.size w w' := by
 induction k using Nat.strongRecOn with
 | _ k ih =>
 intro a0 a1 r w h
 cases k with
 | zero => exact absurd h (by simp [spec_l07Fits.f])
 | succ k =>
 simp only [spec_l07Fits.f] at h
 have HB := Aside0.mk (Below.refl w.heap.size w)
 have H : (if a0 = 0 then (spec_l07Fits.j0 k a0 a1 true) else (spec_l07Fits.j0 k a0 a1 (a1 == 0))) = some r := h
 clear h
 have HC3 := Aside0.mk H
 clear H
 go_enter Tryz.func146, Tryz.ntmps146
 go_upto_region 1 with (fail)
 go_cut [10] (fun v10 wc => ∃ (kq : Nat) (x10_2 : Bool), v10 = .bool x10_2 ∧ Aside0 (spec_l07Fits.j0 kq a0 a1 x10_2 = some r) ∧ Aside0 (kq ≤ k) ∧ Aside0 (Below w.heap.size w wc))
 case first =>
  have H := HC3.out
  clear HC3
  obtain ⟨c4, H⟩ | ⟨c4, H⟩ := Xiu H
  ·have c4b0 : (a0 == 0) = true := beq_iff_eq.mpr c4
   have c4b1 : (a0 != 0) = false := bne_eq_false_iff_eq.mpr c4
   clear c4
   (first | rw [c4b0] | (simp only [i64_w, i32_w]; rw [c4b0]) | skip)
   have H' := Aside0.mk H
   clear H
   go_wp2
   go_meet
   case rel => exact ⟨_, (true), Xr, H', Xko, ⟨Xi⟩⟩
  have c4b0 : (a0 == 0) = false := beq_eq_false_iff_ne.mpr c4
  have c4b1 : (a0 != 0) = true := bne_iff_ne.mpr c4
  (first | rw [c4b0] | (simp only [i64_w, i32_w]; rw [c4b0]) | skip)
  have H' := Aside0.mk H
  clear H
  go_wp2
  go_meet
  case rel => exact ⟨_, ((a1 == 0)), Xr, H', Xko, ⟨Xi⟩⟩
 clear HC3
 obtain ⟨kq, x10_2, rfl, HA, HJ2, HB⟩ := hcut
 cases kq with | zero => cases HA.out | succ kj2 => ?_
 have H := HA.out
 clear HA
 simp only [spec_l07Fits.j0] at H
 by_cases c5 : x10_2 = true
 ·subst c5
  try rw [if_pos rfl] at H
  obtain rfl := Option.some.inj H
  go_wp2
  go_ret
  exact ⟨Xe, Xi⟩
 replace c5 := Bool.eq_false_iff.mpr c5
 subst c5
 try rw [if_neg (show ¬ (false = true) by decide)] at H
 obtain ⟨c6, H⟩ | ⟨c6, H⟩ := Xiu H
 ·have c6b0 : decide (a1 < a0) = true := decide_eq_true c6
  clear c6
  obtain ⟨t268, A7, H⟩ := Xbi H
  try dsimp only at H
  obtain rfl := Option.some.inj H
  go_wp2_with (first | ((with_reducible refine gate_callee (f := 146) rfl ?_); refine Xgo 16 Tryz.func146 #[.int .i64 a1, .int .i64 a0] ?_; (with_reducible refine (ih kj2 (by have := HJ2.out; omega) a1 a0 t268 _ A7.out).mono ?_); rintro e w8 ⟨rfl, hb⟩; refine ⟨_, rfl, ?_⟩; replace HB := Aside0.mk (below_step Xi hb); clear hb))
  go_ret
  exact ⟨Xe, Xi⟩
 have c6b0 : decide (a1 < a0) = false := decide_eq_false c6
 clear c6
 obtain ⟨c9, H⟩ | ⟨c9, H⟩ := Xiu H
 ·have c9b0 : (a0 == 1) = true := beq_iff_eq.mpr c9
  have c9b1 : (a0 != 1) = false := bne_eq_false_iff_eq.mpr c9
  clear c9
  obtain rfl := Option.some.inj H
  go_wp2
  go_ret
  exact ⟨Xe, Xi⟩
 have c9b0 : (a0 == 1) = false := beq_eq_false_iff_ne.mpr c9
 have c9b1 : (a0 != 1) = true := bne_iff_ne.mpr c9
 obtain ⟨c10, H⟩ | ⟨c10, H⟩ := Xiu H
 ·have c10b0 : (a0 == 2) = true := beq_iff_eq.mpr c10
  have c10b1 : (a0 != 2) = false := bne_eq_false_iff_eq.mpr c10
  clear c10
  obtain rfl := Option.some.inj H
  go_wp2
  go_ret
  exact ⟨Xe, Xi⟩
 have c10b0 : (a0 == 2) = false := beq_eq_false_iff_ne.mpr c10
 have c10b1 : (a0 != 2) = true := bne_iff_ne.mpr c10
 obtain ⟨c11, H⟩ | ⟨c11, H⟩ := Xiu H
 ·have c11b0 : (a0 == 3) = true := beq_iff_eq.mpr c11
  have c11b1 : (a0 != 3) = false := bne_eq_false_iff_eq.mpr c11
  clear c11
  obtain rfl := Option.some.inj H
  go_wp2
  go_ret
  exact ⟨Xe, Xi⟩
 have c11b0 : (a0 == 3) = false := beq_eq_false_iff_ne.mpr c11
 have c11b1 : (a0 != 3) = true := bne_iff_ne.mpr c11
 obtain rfl := Option.some.inj H
 go_wp2
 go_ret
 exact ⟨Xe, Xi⟩
def spec_l07Clash.l0 : Nat → List (S39) → Int → List Int → Int → Int → Int → List (S113) → Int → Int → Int → Option (Bool)
 | 0, _, _, _, _, _, _, _, _, _, _ => none
 | k + 1, x1, x3, x9, x10, x270000, x270001, x270002, x271000, x271001, x271002 => if x10 < (x9.length : Int) then (if 0 ≤ x10 then ((spec_l07At.f k x270000 x270001 x270002 x1 x271000 (rd x9 x10)).bind fun t275 => ((spec_l07Need.f x271000 x271001 x271002 (rd x9 x10)).bind fun t277 => ((spec_l07Join.f k t275 t277).bind fun t278 => ((spec_l07At.f k x270000 x270001 x270002 x1 x3 (rd x9 x10)).bind fun t280 => ((spec_l07Fits.f k t278 t280).bind fun t281 => (if t281 = true then (spec_l07Clash.l0 k x1 x3 x9 (wrap64 (x10 + 1)) x270000 x270001 x270002 x271000 x271001 x271002) else (some true))))))) else (none)) else (some false)
def spec_l07Clash.f (k : Nat) (a0_0 : Int) (a0_1 : Int) (l0_2 : List (S113)) (l1 : List (S39)) (a2_0 : Int) (a2_1 : Int) (a2_2 : Int) (a3 : Int) : Option (Bool) := (spec_l02Path.f k a0_0 a0_1 l0_2 a2_1).bind fun t271 => (spec_l07Clash.l0 k l1 a3 t271 0 a0_0 a0_1 l0_2 a2_0 a2_1 a2_2)
def spec_l07Clash.T5 : Bool × List (List Nat × List Nat) := (true, [([], []), ([], []), ([], []), ([2], [2]), ([], []), ([], []), ([4, 5], [4, 5]), ([6], [6]), ([0, 1, 3, 7], [0, 1, 3, 7]), ([], []), ([], []), ([], []), ([10, 11], [10, 11]), ([12], [12]), ([9, 13, 8], [9, 13]), ([8, 14, 14], [8, 14]), ([15, 15, 0, 1, 2, 3, 4, 5, 6, 7, 8, 9, 10, 11, 12, 13, 14, 15], [15])])
def spec_l07Clash.B5 : List Nat := [0, 0, 0, 4, 0, 0, 48, 112, 255, 0, 0, 0, 3072, 7168, 16383, 32767, 65535]
theorem spec_l07Clash.tab5 : rtab .any (opsOf Tryz.f91 5) = spec_l07Clash.T5 := by kernel_rfl
theorem spec_l07Clash.bits5 : waitsOk spec_l07Clash.T5.2 spec_l07Clash.B5 = true := by kernel_rfl
def spec_l07Clash.T6 : Bool × List (List Nat × List Nat) := (true, [([], []), ([], []), ([], []), ([], []), ([], []), ([], []), ([4, 5], [4, 5]), ([6], [6]), ([1, 2, 3, 7], [1, 2, 3, 7]), ([0, 8, 8], [0, 8]), ([9], [9])])
def spec_l07Clash.B6 : List Nat := [0, 0, 0, 0, 0, 0, 48, 112, 254, 511, 1023]
theorem spec_l07Clash.tab6 : rtab .any (opsOf Tryz.f91 6) = spec_l07Clash.T6 := by kernel_rfl
theorem spec_l07Clash.bits6 : waitsOk spec_l07Clash.T6.2 spec_l07Clash.B6 = true := by kernel_rfl
theorem spec_l07Clash.calls (k : Nat) (a0_0 : Int) (a0_1 : Int) (A0_2 : Option Addr) (c0_2 : Nat) (l0_2 : List (S113)) (A1 : Option Addr) (c1 : Nat) (l1 : List (S39)) (a2_0 : Int) (a2_1 : Int) (a2_2 : Int) (a3 : Int) (r : Bool) (w : World) (hr0_2 : Kd.C k113 w A0_2 l0_2.length l0_2) (hc0_2 : l0_2.length ≤ c0_2) (hr1 : Kd.C k39 w A1 l1.length l1) (hc1 : l1.length ≤ c1) (h : spec_l07Clash.f k a0_0 a0_1 l0_2 l1 a2_0 a2_1 a2_2 a3 = some r) :
  Calls Tryz.prog 91 #[.agg #[.int .i64 a0_0, .int .i64 a0_1, .slice A0_2 l0_2.length c0_2], .slice A1 l1.length c1, .agg #[.int .i64 a2_0, .int .i64 a2_1, .int .i64 a2_2], .int .i64 a3] w fun e w' => e = .returned (.bool r) ∧ Below w.heap.size w w' := by
 have hu35 := Tryz.underlying35
 have hu39 := Tryz.underlying39
 have HR0_2 := Aside0.mk hr0_2
 have HC0_2 := Aside0.mk hc0_2
 clear hr0_2 hc0_2
 have HR1 := Aside0.mk hr1
 have HC1 := Aside0.mk hc1
 clear hr1 hc1
 have HB := Aside0.mk (Below.refl w.heap.size w)
 have H : ((spec_l02Path.f k a0_0 a0_1 l0_2 a2_1).bind fun t271 => (spec_l07Clash.l0 k l1 a3 t271 0 a0_0 a0_1 l0_2 a2_0 a2_1 a2_2)) = some r := h
 clear h
 obtain ⟨t271, A5, H⟩ := Xbi H
 try dsimp only at H
 have H' := Aside0.mk H
 clear H
 go_enter Tryz.func91, Tryz.ntmps91
 go_wp2_with (first | ((with_reducible refine gate_dst (N := 4) rfl ?_); refine Xbox 4 #[.int .i64 a0_0, .int .i64 a0_1, .slice A0_2 l0_2.length c0_2] 35 ?_; intro gb269 hg w6 hbox hb; have BK269 := Aside0.mk (hbox); have GE269 := Xge hg Xi; replace HB := Aside0.mk (below_step Xi hb); clear hb hbox hg) | ((with_reducible refine gate_dst (N := 6) rfl ?_); refine Xbox 6 #[.int .i64 a2_0, .int .i64 a2_1, .int .i64 a2_2] 39 ?_; intro gb270 hg w7 hbox hb; have BK270 := Aside0.mk (hbox); have GE270 := Xge hg Xi; replace HB := Aside0.mk (below_step Xi hb); have NB269_270 := Xnb hg BK269; have NB270_269 := Xns NB269_270; replace BK269 := Xbb BK269 hb; clear hb hbox hg; have hnb8 := NB269_270.out; have hnc8 := NB270_269.out; obtain ⟨hcz9_0, hcz9_1, hcz9_2⟩ := Xc3 BK269; obtain ⟨hcz10_0, hcz10_1, hcz10_2⟩ := Xc3 BK270) | ((with_reducible refine gate_callee (f := 134) rfl ?_); refine Xgo 15 Tryz.func134 #[.agg #[.int .i64 a0_0, .int .i64 a0_1, .slice A0_2 l0_2.length c0_2], .int .i64 a2_1] ?_; (with_reducible refine (spec_l02Path.calls k a0_0 a0_1 _ _ l0_2 a2_1 t271 _ ?side1 ?side2 A5.out).mono ?_); (case side1 => exact Xc HR0_2); (case side2 => exact HC0_2.out); rintro e w11 ⟨v272, rfl, ho0, hb⟩; refine ⟨_, rfl, ?_⟩; have HO273 := Aside0.mk (Kd.R_lower ho0 (below_size Xi)); replace BK269 := Xbb BK269 hb; replace BK270 := Xbb BK270 hb; replace HB := Aside0.mk (below_step Xi hb); clear hb; (try clear ho0)))
 go_loopg [10] k (fun kq v10 w' => ∃ (x10_1 : Int), v10 = .int .i64 x10_1 ∧ Aside0 (spec_l07Clash.l0 kq l1 a3 t271 x10_1 a0_0 a0_1 l0_2 a2_0 a2_1 a2_2 = some r) ∧ Aside0 (kq ≤ k) ∧ Aside0 (Kd.R (Kd.int .i64) 3 w' w.heap.size (fun _ => True) v272 t271) ∧ Aside0 (w'.heap[gb269]? = some (.cells #[.int .i64 a0_0, .int .i64 a0_1, (.slice A0_2 l0_2.length c0_2)] 35 (0, 0))) ∧ Aside0 (w'.heap[gb270]? = some (.cells #[.int .i64 a2_0, .int .i64 a2_1, .int .i64 a2_2] 39 (0, 0))) ∧ Aside0 (Below w.heap.size w w'))
 case atStart => exact ⟨(0), Xr, H', Xkr, (Xp' HO273), BK269, BK270, ⟨Xi⟩⟩
 clear H'
 (try clear c1); (try clear hcz10_0); (try clear hcz10_1); (try clear hcz10_2); (try clear hcz9_0); (try clear hcz9_1); (try clear hcz9_2)
 obtain ⟨x10_1, rfl, HA, HK1, HO_9, BK269, BK270, HB⟩ := hrel
 cases gk with | zero => cases HA.out | succ k1 => ?_
 have H := HA.out
 clear HA
 simp only [spec_l07Clash.l0] at H
 obtain ⟨c12b0, H⟩ | ⟨c12b0, H⟩ := Xit H
 ·obtain ⟨c13b0, H⟩ := Xid H
  obtain ⟨t275, A14, H⟩ := Xbi H
  try dsimp only at H
  obtain ⟨t277, A15, H⟩ := Xbi H
  try dsimp only at H
  obtain ⟨t278, A16, H⟩ := Xbi H
  try dsimp only at H
  obtain ⟨t280, A17, H⟩ := Xbi H
  try dsimp only at H
  obtain ⟨t281, A18, H⟩ := Xbi H
  try dsimp only at H
  have HC19 := Aside0.mk H
  clear H
  obtain ⟨Ao20, co20, eo20⟩ := Kd.R_slice HO_9.out
  subst eo20
  try go_wp2_with (fail)
  replace HO_9 := Aside0.mk (Kd.R_drew HO_9.out)
  replace BK269 := Aside0.mk (blk_drew BK269.out)
  replace BK270 := Aside0.mk (blk_drew BK270.out)
  replace HB := Aside0.mk (below_drew1 HB.out)
  have p274 : 0 ≤ (x10_1 : Int) := of_decide_eq_true Xa
  have q274 : x10_1 < (t271.length : Int) := of_decide_eq_true Xa
  obtain ⟨ad274, e274, hx274_0⟩ := Kd.at_int (Kd.R_reads' HO_9.out).2.2 x10_1 p274 q274
  cases e274
  replace p274 := eq_true p274
  replace q274 := eq_true q274
  have p276 : 0 ≤ (x10_1 : Int) := of_decide_eq_true Xa
  have q276 : x10_1 < (t271.length : Int) := of_decide_eq_true Xa
  obtain ⟨ad276, e276, hx276_0⟩ := Kd.at_int (Kd.R_reads' HO_9.out).2.2 x10_1 p276 q276
  obtain rfl : ad274 = ad276 := (by injection e276)
  replace p276 := eq_true p276
  replace q276 := eq_true q276
  refine start_ (n := 17) (S := fun w' => w'.cell? ⟨gb269, 0, none⟩ = some (.int .i64 a0_0) ∧ w'.cell? ⟨gb269, 1, none⟩ = some (.int .i64 a0_1) ∧ w'.cell? ⟨gb269, 2, none⟩ = some (.slice A0_2 l0_2.length c0_2) ∧ w'.cell? ⟨gb270, 0, none⟩ = some (.int .i64 a2_0) ∧ w'.cell? ⟨gb270, 1, none⟩ = some (.int .i64 a2_1) ∧ w'.cell? ⟨gb270, 2, none⟩ = some (.int .i64 a2_2) ∧ w'.cell? (ad274.add (x10_1).toNat) = some (.int .i64 (rd t271 x10_1)) ∧ w'.cell? (ad274.add (x10_1).toNat) = some (.int .i64 (rd t271 x10_1))) (ds := []) #[false, false, false, false, false, false, false, false, false, false, false, false, false, false, false, false, false] (by kernel_rfl) rfl rfl ⟨(blk_cell BK269.out 0).trans rfl, (blk_cell BK269.out 1).trans rfl, (blk_cell BK269.out 2).trans rfl, (blk_cell BK270.out 0).trans rfl, (blk_cell BK270.out 1).trans rfl, (blk_cell BK270.out 2).trans rfl, hx274_0, hx276_0⟩ (fun hHeld => ?_); refine with_tabW spec_l07Clash.tab5 spec_l07Clash.bits5 (fun HT_ HW_ => ?_)
  generalize wr.drew = w21 at HO_9 BK269 BK270 HB hx274_0 hx276_0 hHeld ⊢
  refine Xpu 1 23 (XW.bs 17 2) HT_.out ?_
  refine Xpu 2 24 (XW.bs 17 6) HT_.out ?_
  refine Xpu 4 26 (XW.bs 17 22) HT_.out ?_
  refine Xpu 5 27 (XW.bs 17 54) HT_.out ?_
  refine Xpu 6 28 (XW.bs 17 118) HT_.out ?_
  refine Xpu 10 32 (XW.bs 17 1142) HT_.out ?_
  refine Xpu 11 33 (XW.bs 17 3190) HT_.out ?_
  refine Xpu 12 34 (XW.bs 17 7286) HT_.out ?_
  refine Xta 0 22 (XW.bs 17 7287) HT_.out HW_.out hHeld ?_
  refine Xta 3 25 (XW.bs 17 7295) HT_.out HW_.out hHeld ?_
  refine Xta 7 29 (XW.bs 17 7423) HT_.out HW_.out hHeld ?_
  refine Xta 9 31 (XW.bs 17 7935) HT_.out HW_.out hHeld ?_
  refine Xta 13 35 (XW.bs 17 16127) HT_.out HW_.out hHeld ?_
  refine one_ (i := 8) (N := some 30) (XW.bs 17 16383) rfl rfl (one_of HT_.out (by kernel_rfl)) (by decide) (fun K hK => ?_)
  refine goes_ Tryz.func77 (by kernel_rfl) rfl #[.agg #[.int .i64 a0_0, .int .i64 a0_1, .slice A0_2 l0_2.length c0_2], .slice A1 l1.length c1, .int .i64 a2_0, .int .i64 (rd t271 x10_1)] (by rfl) rfl rfl (by (try simp only [List.map_toArray, List.map_cons, List.map_nil]); first | done | rfl | (simp only [List.length_drop, List.length_take]; rfl)) ?_
  with_reducible refine (spec_l07At.calls k1 a0_0 a0_1 _ _ l0_2 _ _ l1 a2_0 (rd t271 x10_1) t275 _ ?side1 ?side2 ?side3 ?side4 A14.out).mono ?_
  (case side1 => exact Xc HR0_2)
  (case side2 => exact HC0_2.out)
  (case side3 => exact Xc HR1)
  (case side4 => exact HC1.out)
  rintro e w22 ⟨rfl, hb⟩
  have HS6_ := (hb.cell (World.block_lt_of_cell? _ _ (hHeld.2.2.2.2.2.2.1))).trans (hHeld.2.2.2.2.2.2.1)
  have HS7_ := (hb.cell (World.block_lt_of_cell? _ _ (hHeld.2.2.2.2.2.2.2))).trans (hHeld.2.2.2.2.2.2.2)
  refine ⟨_, rfl, ?_⟩
  replace HO_9 := Aside0.mk (Kd.R_below (Xq HO_9) hb)
  replace BK269 := Xbb BK269 hb
  replace BK270 := Xbb BK270 hb
  replace HB := Aside0.mk (below_step Xi hb)
  try clear hb
  try clear hb2
  try clear hk
  try clear hi
  refine hK.out _ _ ⟨(blk_cell BK269.out 0).trans rfl, (blk_cell BK269.out 1).trans rfl, (blk_cell BK269.out 2).trans rfl, (blk_cell BK270.out 0).trans rfl, (blk_cell BK270.out 1).trans rfl, (blk_cell BK270.out 2).trans rfl, HS6_, HS7_⟩ (fun hHeld => ?_)
  clear hK K
  refine Xno ?_
  refine one_ (i := 14) (N := some 36) (XW.bs 17 32767) rfl rfl (one_of HT_.out (by kernel_rfl)) (by decide) (fun K hK => ?_)
  refine goes_ Tryz.func145 (by kernel_rfl) rfl #[.agg #[.int .i64 a2_0, .int .i64 a2_1, .int .i64 a2_2], .int .i64 (rd t271 x10_1)] (by rfl) rfl rfl (by (try simp only [List.map_toArray, List.map_cons, List.map_nil]); first | done | rfl | (simp only [List.length_drop, List.length_take]; rfl)) ?_
  with_reducible refine (spec_l07Need.calls a2_0 a2_1 a2_2 (rd t271 x10_1) t277 _ A15.out).mono ?_
  rintro e w23 ⟨rfl, hb⟩
  have HS6_ := (hb.cell (World.block_lt_of_cell? _ _ (hHeld.2.2.2.2.2.2.1))).trans (hHeld.2.2.2.2.2.2.1)
  have HS7_ := (hb.cell (World.block_lt_of_cell? _ _ (hHeld.2.2.2.2.2.2.2))).trans (hHeld.2.2.2.2.2.2.2)
  refine ⟨_, rfl, ?_⟩
  replace HO_9 := Aside0.mk (Kd.R_below (Xq HO_9) hb)
  replace BK269 := Xbb BK269 hb
  replace BK270 := Xbb BK270 hb
  replace HB := Aside0.mk (below_step Xi hb)
  try clear hb
  try clear hb2
  try clear hk
  try clear hi
  refine hK.out _ _ ⟨(blk_cell BK269.out 0).trans rfl, (blk_cell BK269.out 1).trans rfl, (blk_cell BK269.out 2).trans rfl, (blk_cell BK270.out 0).trans rfl, (blk_cell BK270.out 1).trans rfl, (blk_cell BK270.out 2).trans rfl, HS6_, HS7_⟩ (fun hHeld => ?_)
  clear hK K
  refine Xno ?_
  refine one_ (i := 15) (N := some 37) (XW.bs 17 65535) rfl rfl (one_of HT_.out (by kernel_rfl)) (by decide) (fun K hK => ?_)
  refine goes_ Tryz.func133 (by kernel_rfl) rfl #[.int .i64 t275, .int .i64 t277] (by rfl) rfl rfl (by (try simp only [List.map_toArray, List.map_cons, List.map_nil]); first | done | rfl | (simp only [List.length_drop, List.length_take]; rfl)) ?_
  with_reducible refine (spec_l07Join.calls k1 t275 t277 t278 _ A16.out).mono ?_
  rintro e w24 ⟨rfl, hb⟩
  have HS6_ := (hb.cell (World.block_lt_of_cell? _ _ (hHeld.2.2.2.2.2.2.1))).trans (hHeld.2.2.2.2.2.2.1)
  have HS7_ := (hb.cell (World.block_lt_of_cell? _ _ (hHeld.2.2.2.2.2.2.2))).trans (hHeld.2.2.2.2.2.2.2)
  refine ⟨_, rfl, ?_⟩
  replace HO_9 := Aside0.mk (Kd.R_below (Xq HO_9) hb)
  replace BK269 := Xbb BK269 hb
  replace BK270 := Xbb BK270 hb
  replace HB := Aside0.mk (below_step Xi hb)
  try clear hb
  try clear hb2
  try clear hk
  try clear hi
  refine hK.out _ _ ⟨(blk_cell BK269.out 0).trans rfl, (blk_cell BK269.out 1).trans rfl, (blk_cell BK269.out 2).trans rfl, (blk_cell BK270.out 0).trans rfl, (blk_cell BK270.out 1).trans rfl, (blk_cell BK270.out 2).trans rfl, HS6_, HS7_⟩ (fun hHeld => ?_)
  clear hK K
  refine Xno ?_
  refine Xpu 16 11 (XW.bs 17 131071) HT_.out ?_
  refine done_ (done_of HT_.out (by kernel_rfl)) ?_
  try go_wp2_with (fail)
  replace HO_9 := Aside0.mk (Kd.R_drew HO_9.out)
  replace BK269 := Aside0.mk (blk_drew BK269.out)
  replace BK270 := Aside0.mk (blk_drew BK270.out)
  replace HB := Aside0.mk (below_drew1 HB.out)
  have p279 : 0 ≤ (x10_1 : Int) := of_decide_eq_true Xa
  have q279 : x10_1 < (t271.length : Int) := of_decide_eq_true Xa
  obtain ⟨ad279, e279, hx279_0⟩ := Kd.at_int (Kd.R_reads' HO_9.out).2.2 x10_1 p279 q279
  obtain rfl : ad274 = ad279 := (by injection e279)
  replace p279 := eq_true p279
  replace q279 := eq_true q279
  refine start_ (n := 11) (S := fun w' => w'.cell? ⟨gb269, 0, none⟩ = some (.int .i64 a0_0) ∧ w'.cell? ⟨gb269, 1, none⟩ = some (.int .i64 a0_1) ∧ w'.cell? ⟨gb269, 2, none⟩ = some (.slice A0_2 l0_2.length c0_2) ∧ w'.cell? (ad274.add (x10_1).toNat) = some (.int .i64 (rd t271 x10_1))) (ds := []) #[false, false, false, false, false, false, false, false, false, false, false] (by kernel_rfl) rfl rfl ⟨(blk_cell BK269.out 0).trans rfl, (blk_cell BK269.out 1).trans rfl, (blk_cell BK269.out 2).trans rfl, hx279_0⟩ (fun hHeld => ?_); refine with_tabW spec_l07Clash.tab6 spec_l07Clash.bits6 (fun HT_ HW_ => ?_)
  generalize w24.drew = w25 at HO_9 BK269 BK270 HB hx279_0 hHeld ⊢
  refine Xpu 0 38 (XW.bs 11 1) HT_.out ?_
  refine Xpu 2 40 (XW.bs 11 5) HT_.out ?_
  refine Xpu 3 41 (XW.bs 11 13) HT_.out ?_
  refine Xpu 4 42 (XW.bs 11 29) HT_.out ?_
  refine Xpu 5 43 (XW.bs 11 61) HT_.out ?_
  refine Xpu 6 44 (XW.bs 11 125) HT_.out ?_
  refine Xta 1 39 (XW.bs 11 127) HT_.out HW_.out hHeld ?_
  refine Xta 7 45 (XW.bs 11 255) HT_.out HW_.out hHeld ?_
  refine one_ (i := 8) (N := some 46) (XW.bs 11 511) rfl rfl (one_of HT_.out (by kernel_rfl)) (by decide) (fun K hK => ?_)
  refine goes_ Tryz.func77 (by kernel_rfl) rfl #[.agg #[.int .i64 a0_0, .int .i64 a0_1, .slice A0_2 l0_2.length c0_2], .slice A1 l1.length c1, .int .i64 a3, .int .i64 (rd t271 x10_1)] (by rfl) rfl rfl (by (try simp only [List.map_toArray, List.map_cons, List.map_nil]); first | done | rfl | (simp only [List.length_drop, List.length_take]; rfl)) ?_
  with_reducible refine (spec_l07At.calls k1 a0_0 a0_1 _ _ l0_2 _ _ l1 a3 (rd t271 x10_1) t280 _ ?side1 ?side2 ?side3 ?side4 A17.out).mono ?_
  (case side1 => exact Xc HR0_2)
  (case side2 => exact HC0_2.out)
  (case side3 => exact Xc HR1)
  (case side4 => exact HC1.out)
  rintro e w26 ⟨rfl, hb⟩
  have HS3_ := (hb.cell (World.block_lt_of_cell? _ _ (hHeld.2.2.2))).trans (hHeld.2.2.2)
  refine ⟨_, rfl, ?_⟩
  replace HO_9 := Aside0.mk (Kd.R_below (Xq HO_9) hb)
  replace BK269 := Xbb BK269 hb
  replace BK270 := Xbb BK270 hb
  replace HB := Aside0.mk (below_step Xi hb)
  try clear hb
  try clear hb2
  try clear hk
  try clear hi
  refine hK.out _ _ ⟨(blk_cell BK269.out 0).trans rfl, (blk_cell BK269.out 1).trans rfl, (blk_cell BK269.out 2).trans rfl, HS3_⟩ (fun hHeld => ?_)
  clear hK K
  refine Xno ?_
  refine one_ (i := 9) (N := some 47) (XW.bs 11 1023) rfl rfl (one_of HT_.out (by kernel_rfl)) (by decide) (fun K hK => ?_)
  refine goes_ Tryz.func146 (by kernel_rfl) rfl #[.int .i64 t278, .int .i64 t280] (by rfl) rfl rfl (by (try simp only [List.map_toArray, List.map_cons, List.map_nil]); first | done | rfl | (simp only [List.length_drop, List.length_take]; rfl)) ?_
  with_reducible refine (spec_l07Fits.calls k1 t278 t280 t281 _ A18.out).mono ?_
  rintro e w27 ⟨rfl, hb⟩
  have HS3_ := (hb.cell (World.block_lt_of_cell? _ _ (hHeld.2.2.2))).trans (hHeld.2.2.2)
  refine ⟨_, rfl, ?_⟩
  replace HO_9 := Aside0.mk (Kd.R_below (Xq HO_9) hb)
  replace BK269 := Xbb BK269 hb
  replace BK270 := Xbb BK270 hb
  replace HB := Aside0.mk (below_step Xi hb)
  try clear hb
  try clear hb2
  try clear hk
  try clear hi
  refine hK.out _ _ ⟨(blk_cell BK269.out 0).trans rfl, (blk_cell BK269.out 1).trans rfl, (blk_cell BK269.out 2).trans rfl, HS3_⟩ (fun hHeld => ?_)
  clear hK K
  refine Xno ?_
  refine Xpu 10 48 (XW.bs 11 2047) HT_.out ?_
  refine done_ (done_of HT_.out (by kernel_rfl)) ?_
  go_upto_if 48 with (fail)
  have H := HC19.out
  clear HC19
  by_cases c28 : t281 = true
  ·subst c28
   try rw [if_pos rfl] at H
   have H' := Aside0.mk H
   clear H
   go_wp2
   go_roundg k1
   case measure => have := HK1.out; omega
   case rel => exact ⟨(wrap64 (x10_1 + 1)), Xr, H', Xk1, (Xp' HO_9), BK269, BK270, ⟨Xi⟩⟩
  replace c28 := Bool.eq_false_iff.mpr c28
  subst c28
  try rw [if_neg (show ¬ (false = true) by decide)] at H
  obtain rfl := Option.some.inj H
  go_wp2
  go_ret
  exact ⟨Xe, Xi⟩
 obtain rfl := Option.some.inj H
 obtain ⟨Ao29, co29, eo29⟩ := Kd.R_slice HO_9.out
 subst eo29
 go_wp2
 go_ret
 exact ⟨Xe, Xi⟩
def spec_l07Conflicts.l0 : Nat → List (S39) → List Int → List Int → Int → Int → Int → List (S113) → Int → Int → Int → Option (List Int)
 | 0, _, _, _, _, _, _, _, _, _, _ => none
 | k + 1, x1, x7, x8, x9, x283000, x283001, x283002, x284000, x284001, x284002 => if x9 < (x8.length : Int) then (if 0 ≤ x9 then (if (rd x8 x9) = x284000 then (spec_l07Conflicts.l0 k x1 x7 x8 (wrap64 (x9 + 1)) x283000 x283001 x283002 x284000 x284001 x284002) else ((spec_l07Clash.f k x283000 x283001 x283002 x1 x284000 x284001 x284002 (rd x8 x9)).bind fun t292 => (if t292 = true then (if x7.length < 17592186044416 then (spec_l07Conflicts.l0 k x1 (x7 ++ [rd x8 x9]) x8 (wrap64 (x9 + 1)) x283000 x283001 x283002 x284000 x284001 x284002) else (none)) else (spec_l07Conflicts.l0 k x1 x7 x8 (wrap64 (x9 + 1)) x283000 x283001 x283002 x284000 x284001 x284002)))) else (none)) else (some x7)
def spec_l07Conflicts.f (k : Nat) (a0_0 : Int) (a0_1 : Int) (l0_2 : List (S113)) (l1 : List (S39)) (a2_0 : Int) (a2_1 : Int) (a2_2 : Int) : Option (List Int) := (spec_l07Sessions.f k l1).bind fun t287 => (spec_l07Conflicts.l0 k l1 (([] : List Int)) t287 0 a0_0 a0_1 l0_2 a2_0 a2_1 a2_2)
def spec_l07Conflicts.T6 : Bool × List (List Nat × List Nat) := (true, [([], []), ([], []), ([0, 1], [0, 1]), ([2], [2]), ([], []), ([4], [4]), ([3, 5], [3, 5]), ([6], [6]), ([7], [7]), ([7], [7]), ([7], [7]), ([7], [7]), ([7], [7]), ([11, 12, 7], [7, 11, 12]), ([13, 7], [7, 13]), ([8, 9, 10, 14, 7, 7], [7, 8, 9, 10, 14]), ([7, 15], [7, 15])])
def spec_l07Conflicts.B6 : List Nat := [0, 0, 3, 7, 0, 16, 63, 127, 255, 255, 255, 255, 255, 6399, 14591, 32767, 65535]
theorem spec_l07Conflicts.tab6 : rtab .any (opsOf Tryz.f47 6) = spec_l07Conflicts.T6 := by kernel_rfl
theorem spec_l07Conflicts.bits6 : waitsOk spec_l07Conflicts.T6.2 spec_l07Conflicts.B6 = true := by kernel_rfl
theorem spec_l07Conflicts.calls (k : Nat) (a0_0 : Int) (a0_1 : Int) (A0_2 : Option Addr) (c0_2 : Nat) (l0_2 : List (S113)) (A1 : Option Addr) (c1 : Nat) (l1 : List (S39)) (a2_0 : Int) (a2_1 : Int) (a2_2 : Int) (r : List Int) (w : World) (hr0_2 : Kd.C k113 w A0_2 l0_2.length l0_2) (hc0_2 : l0_2.length ≤ c0_2) (hr1 : Kd.C k39 w A1 l1.length l1) (hc1 : l1.length ≤ c1) (h : spec_l07Conflicts.f k a0_0 a0_1 l0_2 l1 a2_0 a2_1 a2_2 = some r) :
  Calls Tryz.prog 47 #[.agg #[.int .i64 a0_0, .int .i64 a0_1, .slice A0_2 l0_2.length c0_2], .slice A1 l1.length c1, .agg #[.int .i64 a2_0, .int .i64 a2_1, .int .i64 a2_2]] w fun e w' => ∃ v0_ : Value, e = .returned (v0_) ∧ Kd.R (Kd.int .i64) 3 w' w.heap.size (fun _ => True) v0_ r ∧ Below w.heap.size w w' := by
 have hu35 := Tryz.underlying35
 have hu39 := Tryz.underlying39
 have HR0_2 := Aside0.mk hr0_2
 have HC0_2 := Aside0.mk hc0_2
 clear hr0_2 hc0_2
 have HR1 := Aside0.mk hr1
 have HC1 := Aside0.mk hc1
 clear hr1 hc1
 have HB := Aside0.mk (Below.refl w.heap.size w)
 have H : ((spec_l07Sessions.f k l1).bind fun t287 => (spec_l07Conflicts.l0 k l1 (([] : List Int)) t287 0 a0_0 a0_1 l0_2 a2_0 a2_1 a2_2)) = some r := h
 clear h
 obtain ⟨y284, hy284⟩ : ∃ y_ : List Int, y_ = (([] : List Int)) := ⟨_, rfl⟩
 replace H : ((spec_l07Sessions.f k l1).bind fun t287 => (spec_l07Conflicts.l0 k l1 y284 t287 0 a0_0 a0_1 l0_2 a2_0 a2_1 a2_2)) = some r := by first | (rw [hy284]; with_reducible exact H) | (have H2_ := (Option.bind_some _ _).symm.trans H; rw [hy284]; with_reducible exact H2_) | (have H2_ := (Option.bind_some _ _).symm.trans H; with_reducible exact H2_) | with_reducible exact H | (rw [hy284]; exact H) | exact H
 have Ny284 := Aside0.mk hy284
 clear hy284
 obtain ⟨t287, A4, H⟩ := Xbi H
 try dsimp only at H
 have H' := Aside0.mk H
 clear H
 go_enter Tryz.func47, Tryz.ntmps47
 go_wp2_with (first | ((with_reducible refine gate_dst (N := 3) rfl ?_); refine Xbox 3 #[.int .i64 a0_0, .int .i64 a0_1, .slice A0_2 l0_2.length c0_2] 35 ?_; intro gb282 hg w5 hbox hb; have BK282 := Aside0.mk (hbox); have GE282 := Xge hg Xi; replace HB := Aside0.mk (below_step Xi hb); clear hb hbox hg) | ((with_reducible refine gate_dst (N := 5) rfl ?_); refine Xbox 5 #[.int .i64 a2_0, .int .i64 a2_1, .int .i64 a2_2] 39 ?_; intro gb283 hg w6 hbox hb; have BK283 := Aside0.mk (hbox); have GE283 := Xge hg Xi; replace HB := Aside0.mk (below_step Xi hb); have NB282_283 := Xnb hg BK282; have NB283_282 := Xns NB282_283; replace BK282 := Xbb BK282 hb; clear hb hbox hg) | ((with_reducible refine gate_dst (N := 10) rfl ?_); refine Kd.R_lit (Kd.int .i64) _ 3 ?hg (N := 10) ?hd (xs := ([] : List Int)) (inner := []) (ok := fun _ => True) (okp := fun _ => True) ?hr ?hp (fun _ hk => hk) trivial (Below.refl _ _) (Nat.le_refl _) (by simp) ?_; (case hd => rfl); (case hg => rfl); (case hr => first | (go_simp; done) | (go_simp; rfl)); (case hp => exact (Reps.none _ _)); intro v285 w7 ho8 hb hg_ hnew_; clear hg_ hnew_; (first | rw [← Ny284.out] at ho8 | (simp only [Int.reduceToNat] at ho8; rw [← Ny284.out] at ho8)); have HO286 := Aside0.mk (Kd.R_lower ho8 (below_size Xi)); replace BK282 := Xbb BK282 hb; replace BK283 := Xbb BK283 hb; replace HB := Aside0.mk (below_step Xi hb); clear hb ho8) | ((with_reducible refine gate_callee (f := 90) rfl ?_); refine Xgo 12 Tryz.func90 #[.slice A1 l1.length c1] ?_; (with_reducible refine (spec_l07Sessions.calls k _ _ l1 t287 _ ?side1 ?side2 A4.out).mono ?_); (case side1 => exact Xc HR1); (case side2 => exact HC1.out); rintro e w9 ⟨v288, rfl, ho0, hb⟩; refine ⟨_, rfl, ?_⟩; have HO289 := Aside0.mk (Kd.R_lower (Kd.R_new' ho0 (Kd.R_lt (Xq HO286))) (below_size Xi)); replace HO286 := Aside0.mk (Kd.R_elder' (Xq HO286) (Kd.R_base ho0) hb); replace BK282 := Xbb BK282 hb; replace BK283 := Xbb BK283 hb; replace HB := Aside0.mk (below_step Xi hb); clear hb; (try clear ho0)))
 go_loopg [7, 9] k (fun kq v7 v9 w' => ∃ (x7_1 : List Int) (x9_1 : Int), v9 = .int .i64 x9_1 ∧ Aside0 (spec_l07Conflicts.l0 kq l1 x7_1 t287 x9_1 a0_0 a0_1 l0_2 a2_0 a2_1 a2_2 = some r) ∧ Aside0 (kq ≤ k) ∧ Aside0 (Kd.R (Kd.int .i64) 3 w' w.heap.size (fun k_ => some k_ ≠ (v288 : Value).ownBlock) v7 x7_1) ∧ Aside0 (Kd.R (Kd.int .i64) 3 w' w.heap.size (fun k_ => some k_ ≠ (v7 : Value).ownBlock) v288 t287) ∧ Aside0 (w'.heap[gb282]? = some (.cells #[.int .i64 a0_0, .int .i64 a0_1, (.slice A0_2 l0_2.length c0_2)] 35 (0, 0))) ∧ Aside0 (w'.heap[gb283]? = some (.cells #[.int .i64 a2_0, .int .i64 a2_1, .int .i64 a2_2] 39 (0, 0))) ∧ Aside0 (Below w.heap.size w w'))
 case atStart => exact ⟨(y284), (0), Xr, H', Xkr, ⟨by (with_reducible repeat (first | apply Kd.R_alloc | apply Kd.R_drewN | apply Kd.R_drew)); exact Kd.R_mono HO286.out (fun _ hk => hk.2)⟩, ⟨by (with_reducible repeat (first | apply Kd.R_alloc | apply Kd.R_drewN | apply Kd.R_drew)); exact Kd.R_mono HO289.out (fun _ hk => hk.2)⟩, (Xp BK282), (Xp BK283), ⟨Xi⟩⟩
 clear H'
 try clear c1
 obtain ⟨x7_1, x9_1, rfl, HA, HK1, HO_7, HO_8, BK282, BK283, HB⟩ := hrel
 cases gk with | zero => cases HA.out | succ k1 => ?_
 have H := HA.out
 clear HA
 simp only [spec_l07Conflicts.l0] at H
 obtain ⟨c10b0, H⟩ | ⟨c10b0, H⟩ := Xit H
 ·obtain ⟨c11b0, H⟩ := Xid H
  obtain ⟨c12, H⟩ | ⟨c12, H⟩ := Xiu H
  ·have c12b0 : ((rd t287 x9_1) == a2_0) = true := beq_iff_eq.mpr c12
   have c12b1 : ((rd t287 x9_1) != a2_0) = false := bne_eq_false_iff_eq.mpr c12
   clear c12
   have H' := Aside0.mk H
   clear H
   obtain ⟨Ao13, co13, eo13⟩ := Kd.R_slice HO_8.out
   subst eo13
   try go_wp2_with (fail)
   replace HO_7 := Aside0.mk (Kd.R_drew HO_7.out)
   replace HO_8 := Aside0.mk (Kd.R_drew HO_8.out)
   replace BK282 := Aside0.mk (blk_drew BK282.out)
   replace BK283 := Aside0.mk (blk_drew BK283.out)
   replace HB := Aside0.mk (below_drew1 HB.out)
   have p290 : 0 ≤ (x9_1 : Int) := of_decide_eq_true Xa
   have q290 : x9_1 < (t287.length : Int) := of_decide_eq_true Xa
   obtain ⟨ad290, e290, hx290_0⟩ := Kd.at_int (Kd.R_reads' HO_8.out).2.2 x9_1 p290 q290
   cases e290
   replace p290 := eq_true p290
   replace q290 := eq_true q290
   refine start_ (n := 17) (S := fun w' => w'.cell? ⟨gb283, 0, none⟩ = some (.int .i64 a2_0) ∧ w'.cell? ⟨gb283, 1, none⟩ = some (.int .i64 a2_1) ∧ w'.cell? ⟨gb283, 2, none⟩ = some (.int .i64 a2_2) ∧ w'.cell? (ad290.add (x9_1).toNat) = some (.int .i64 (rd t287 x9_1))) (ds := []) #[false, false, false, false, false, false, false, false, false, false, false, false, false, false, false, false, false] (by kernel_rfl) rfl rfl ⟨(blk_cell BK283.out 0).trans rfl, (blk_cell BK283.out 1).trans rfl, (blk_cell BK283.out 2).trans rfl, hx290_0⟩ (fun hHeld => ?_); refine with_tabW spec_l07Conflicts.tab6 spec_l07Conflicts.bits6 (fun HT_ HW_ => ?_)
   generalize wr.drew = w14 at HO_7 HO_8 BK282 BK283 HB hx290_0 hHeld ⊢
   refine Xpu 0 19 (XW.bs 17 1) HT_.out ?_
   refine Xpu 1 20 (XW.bs 17 3) HT_.out ?_
   refine Xpu 2 21 (XW.bs 17 7) HT_.out ?_
   refine Xpu 4 23 (XW.bs 17 23) HT_.out ?_
   refine Xta 3 22 (XW.bs 17 31) HT_.out HW_.out hHeld ?_
   refine Xta 5 24 (XW.bs 17 63) HT_.out HW_.out hHeld ?_
   refine Xpu 6 25 (XW.bs 17 127) HT_.out ?_
   refine Xpu 7 26 (XW.bs 17 255) HT_.out ?_
   refine Xpn 8 27 (XW.bs 17 511) HT_.out ?_
   refine Xpn 9 28 (XW.bs 17 1023) HT_.out ?_
   refine Xpn 10 29 (XW.bs 17 2047) HT_.out ?_
   refine Xpn 11 30 (XW.bs 17 4095) HT_.out ?_
   refine Xpn 12 31 (XW.bs 17 8191) HT_.out ?_
   refine Xpn 13 32 (XW.bs 17 16383) HT_.out ?_
   refine Xpn 14 33 (XW.bs 17 32767) HT_.out ?_
   refine Xpn 15 34 (XW.bs 17 65535) HT_.out ?_
   refine Xpu 16 35 (XW.bs 17 131071) HT_.out ?_
   refine done_ (done_of HT_.out (by kernel_rfl)) ?_
   try go_wp2_with (fail)
   go_roundg k1
   case measure => have := HK1.out; omega
   case rel => exact ⟨(x7_1), (wrap64 (x9_1 + 1)), Xr, H', Xk1, (Xp' HO_7), (Xp' HO_8), (Xp BK282), (Xp BK283), ⟨Xi⟩⟩
  have c12b0 : ((rd t287 x9_1) == a2_0) = false := beq_eq_false_iff_ne.mpr c12
  have c12b1 : ((rd t287 x9_1) != a2_0) = true := bne_iff_ne.mpr c12
  obtain ⟨t292, A15, H⟩ := Xbi H
  try dsimp only at H
  have HC16 := Aside0.mk H
  clear H
  obtain ⟨Ao17, co17, eo17⟩ := Kd.R_slice HO_8.out
  subst eo17
  try go_wp2_with (fail)
  replace HO_7 := Aside0.mk (Kd.R_drew HO_7.out)
  replace HO_8 := Aside0.mk (Kd.R_drew HO_8.out)
  replace BK282 := Aside0.mk (blk_drew BK282.out)
  replace BK283 := Aside0.mk (blk_drew BK283.out)
  replace HB := Aside0.mk (below_drew1 HB.out)
  have p290 : 0 ≤ (x9_1 : Int) := of_decide_eq_true Xa
  have q290 : x9_1 < (t287.length : Int) := of_decide_eq_true Xa
  obtain ⟨ad290, e290, hx290_0⟩ := Kd.at_int (Kd.R_reads' HO_8.out).2.2 x9_1 p290 q290
  cases e290
  replace p290 := eq_true p290
  replace q290 := eq_true q290
  have p291 : 0 ≤ (x9_1 : Int) := of_decide_eq_true Xa
  have q291 : x9_1 < (t287.length : Int) := of_decide_eq_true Xa
  obtain ⟨ad291, e291, hx291_0⟩ := Kd.at_int (Kd.R_reads' HO_8.out).2.2 x9_1 p291 q291
  obtain rfl : ad290 = ad291 := (by injection e291)
  replace p291 := eq_true p291
  replace q291 := eq_true q291
  refine start_ (n := 17) (S := fun w' => w'.cell? ⟨gb283, 0, none⟩ = some (.int .i64 a2_0) ∧ w'.cell? ⟨gb283, 1, none⟩ = some (.int .i64 a2_1) ∧ w'.cell? ⟨gb283, 2, none⟩ = some (.int .i64 a2_2) ∧ w'.cell? ⟨gb282, 0, none⟩ = some (.int .i64 a0_0) ∧ w'.cell? ⟨gb282, 1, none⟩ = some (.int .i64 a0_1) ∧ w'.cell? ⟨gb282, 2, none⟩ = some (.slice A0_2 l0_2.length c0_2) ∧ w'.cell? (ad290.add (x9_1).toNat) = some (.int .i64 (rd t287 x9_1)) ∧ w'.cell? (ad290.add (x9_1).toNat) = some (.int .i64 (rd t287 x9_1))) (ds := []) #[false, false, false, false, false, false, false, false, false, false, false, false, false, false, false, false, false] (by kernel_rfl) rfl rfl ⟨(blk_cell BK283.out 0).trans rfl, (blk_cell BK283.out 1).trans rfl, (blk_cell BK283.out 2).trans rfl, (blk_cell BK282.out 0).trans rfl, (blk_cell BK282.out 1).trans rfl, (blk_cell BK282.out 2).trans rfl, hx290_0, hx291_0⟩ (fun hHeld => ?_); refine with_tabW spec_l07Conflicts.tab6 spec_l07Conflicts.bits6 (fun HT_ HW_ => ?_)
  generalize wr.drew = w18 at HO_7 HO_8 BK282 BK283 HB hx290_0 hx291_0 hHeld ⊢
  refine Xpu 0 19 (XW.bs 17 1) HT_.out ?_
  refine Xpu 1 20 (XW.bs 17 3) HT_.out ?_
  refine Xpu 2 21 (XW.bs 17 7) HT_.out ?_
  refine Xpu 4 23 (XW.bs 17 23) HT_.out ?_
  refine Xta 3 22 (XW.bs 17 31) HT_.out HW_.out hHeld ?_
  refine Xta 5 24 (XW.bs 17 63) HT_.out HW_.out hHeld ?_
  refine Xpu 6 25 (XW.bs 17 127) HT_.out ?_
  refine Xpu 7 26 (XW.bs 17 255) HT_.out ?_
  refine Xpu 9 28 (XW.bs 17 767) HT_.out ?_
  refine Xpu 11 30 (XW.bs 17 2815) HT_.out ?_
  refine Xpu 12 31 (XW.bs 17 6911) HT_.out ?_
  refine Xpu 13 32 (XW.bs 17 15103) HT_.out ?_
  refine Xta 8 27 (XW.bs 17 15359) HT_.out HW_.out hHeld ?_
  refine Xta 10 29 (XW.bs 17 16383) HT_.out HW_.out hHeld ?_
  refine Xta 14 33 (XW.bs 17 32767) HT_.out HW_.out hHeld ?_
  refine one_ (i := 15) (N := some 34) (XW.bs 17 65535) rfl rfl (one_of HT_.out (by kernel_rfl)) (by decide) (fun K hK => ?_)
  refine goes_ Tryz.func91 (by kernel_rfl) rfl #[.agg #[.int .i64 a0_0, .int .i64 a0_1, .slice A0_2 l0_2.length c0_2], .slice A1 l1.length c1, .agg #[.int .i64 a2_0, .int .i64 a2_1, .int .i64 a2_2], .int .i64 (rd t287 x9_1)] (by rfl) rfl rfl (by (try simp only [List.map_toArray, List.map_cons, List.map_nil]); first | done | rfl | (simp only [List.length_drop, List.length_take]; rfl)) ?_
  with_reducible refine (spec_l07Clash.calls k1 a0_0 a0_1 _ _ l0_2 _ _ l1 a2_0 a2_1 a2_2 (rd t287 x9_1) t292 _ ?side1 ?side2 ?side3 ?side4 A15.out).mono ?_
  (case side1 => exact Xc HR0_2)
  (case side2 => exact HC0_2.out)
  (case side3 => exact Xc HR1)
  (case side4 => exact HC1.out)
  rintro e w19 ⟨rfl, hb⟩
  have HS6_ := (hb.cell (World.block_lt_of_cell? _ _ (hHeld.2.2.2.2.2.2.1))).trans (hHeld.2.2.2.2.2.2.1)
  have HS7_ := (hb.cell (World.block_lt_of_cell? _ _ (hHeld.2.2.2.2.2.2.2))).trans (hHeld.2.2.2.2.2.2.2)
  refine ⟨_, rfl, ?_⟩
  replace HO_7 := Aside0.mk (Kd.R_below (Xq HO_7) hb)
  replace HO_8 := Aside0.mk (Kd.R_below (Xq HO_8) hb)
  replace BK282 := Xbb BK282 hb
  replace BK283 := Xbb BK283 hb
  replace HB := Aside0.mk (below_step Xi hb)
  try clear hb
  try clear hb2
  try clear hk
  try clear hi
  refine hK.out _ _ ⟨(blk_cell BK283.out 0).trans rfl, (blk_cell BK283.out 1).trans rfl, (blk_cell BK283.out 2).trans rfl, (blk_cell BK282.out 0).trans rfl, (blk_cell BK282.out 1).trans rfl, (blk_cell BK282.out 2).trans rfl, HS6_, HS7_⟩ (fun hHeld => ?_)
  clear hK K
  refine Xno ?_
  refine Xpu 16 35 (XW.bs 17 131071) HT_.out ?_
  refine done_ (done_of HT_.out (by kernel_rfl)) ?_
  go_upto_if 35 with (fail)
  have H := HC16.out
  clear HC16
  by_cases c20 : t292 = true
  ·subst c20
   try rw [if_pos rfl] at H
   obtain ⟨c21, H⟩ := Xif H
   have LMc21 := Aside0.mk c21
   clear c21
   obtain ⟨y294, hy294⟩ : ∃ y_ : List Int, y_ = (x7_1 ++ [rd t287 x9_1]) := ⟨_, rfl⟩
   replace H : (spec_l07Conflicts.l0 k1 l1 y294 t287 (wrap64 (x9_1 + 1)) a0_0 a0_1 l0_2 a2_0 a2_1 a2_2) = some r := by first | (rw [hy294]; with_reducible exact H) | (have H2_ := (Option.bind_some _ _).symm.trans H; rw [hy294]; with_reducible exact H2_) | (have H2_ := (Option.bind_some _ _).symm.trans H; with_reducible exact H2_) | with_reducible exact H | (rw [hy294]; exact H) | exact H
   have Ny294 := Aside0.mk hy294
   clear hy294
   have H' := Aside0.mk H
   clear H
   have p293 : 0 ≤ (x9_1 : Int) := of_decide_eq_true Xa
   have q293 : x9_1 < (t287.length : Int) := of_decide_eq_true Xa
   obtain ⟨ad293, e293, hx293_0⟩ := Kd.at_int (Kd.R_reads' HO_8.out).2.2 x9_1 p293 q293
   obtain rfl : ad290 = ad293 := (by injection e293)
   replace p293 := eq_true p293
   replace q293 := eq_true q293
   go_wp2_with (first | ((with_reducible refine gate_builtin (b := .append) (xs := #[.tmp 36, .tmp 41]) rfl ?_); at_builtin; refine Kd.R_append (Kd.int .i64) (w0 := w) w.heap.size rfl (.tmp 36) (.tmp 41) 30 3 (.int .i64 0) 8 rfl Tryz.underlying30 info3 rfl (by decide) (by omega) u7 x7_1 (rd t287 x9_1) [.int .i64 (rd t287 x9_1)] (fun k_ => some k_ ≠ (.slice (some ad290) t287.length co17 : Value).ownBlock) (fun _ => False) rfl rfl ?aP (fun _ hk => hk.elim) ?aF ?aO ?aB ?aS ?aL ?_; (case aP => exact rfl); (case aB => exact Xi); (case aF => exact (fun k_ hk => Kd.fresh' (Kd.R_lt (Xq HO_8)) k_ hk)); (case aO => exact (Xq HO_7)); (case aS => exact (below_size Xi)); (case aL => have := LMc21.out; omega); intro v295 w22 ho hb hg hat; rw [← Ny294.out] at ho; replace HO_8 := Aside0.mk (Kd.R_after (ok := (fun _ => True)) (by (with_reducible repeat (first | apply Kd.R_alloc | apply Kd.R_drewN | apply Kd.R_drew)); exact Kd.R_mono HO_8.out (fun _ hk => ⟨trivial, hk⟩)) hg hat); replace BK282 := Aside0.mk (blk_grown (g := gb282) (o := .cells #[.int .i64 a0_0, .int .i64 a0_1, .slice A0_2 l0_2.length c0_2] 35 (0, 0)) (Xq' BK282) hg (Kd.R_ne HO_7.out BK282.out (by decide))); replace BK283 := Aside0.mk (blk_grown (g := gb283) (o := .cells #[.int .i64 a2_0, .int .i64 a2_1, .int .i64 a2_2] 39 (0, 0)) (Xq' BK283) hg (Kd.R_ne HO_7.out BK283.out (by decide))); replace HB := Aside0.mk (hb); have HO296 := Aside0.mk (ho); clear HO_7; clear ho hb hg hat))
   go_roundg k1
   case measure => have := HK1.out; omega
   case rel => exact ⟨(y294), (wrap64 (x9_1 + 1)), Xr, H', Xk1, (Xp' HO296), ⟨by (with_reducible repeat (first | apply Kd.R_alloc | apply Kd.R_drewN | apply Kd.R_drew)); exact Kd.R_mono HO_8.out (fun _ hk => hk.2)⟩, (Xp BK282), (Xp BK283), ⟨Xi⟩⟩
  replace c20 := Bool.eq_false_iff.mpr c20
  subst c20
  try rw [if_neg (show ¬ (false = true) by decide)] at H
  have H' := Aside0.mk H
  clear H
  go_wp2
  go_roundg k1
  case measure => have := HK1.out; omega
  case rel => exact ⟨(x7_1), (wrap64 (x9_1 + 1)), Xr, H', Xk1, (Xp' HO_7), (Xp' HO_8), (Xp BK282), (Xp BK283), ⟨Xi⟩⟩
 obtain rfl := Option.some.inj H
 obtain ⟨Ao23, co23, eo23⟩ := Kd.R_slice HO_8.out
 subst eo23
 go_wp2
 go_ret
 exact ⟨_, Xe, by (with_reducible repeat (first | apply Kd.R_alloc | apply Kd.R_drewN | apply Kd.R_drew)); exact Kd.R_mono HO_7.out (fun _ hk => trivial), Xi⟩
mutual
def spec_l08Rival.l0 : Nat → List Int → List Int → Int → Int → Int → List (S113) → List (S39) → List (S39) → Int → Int → Int → Int → Int → Int → Option (Bool)
 | 0, _, _, _, _, _, _, _, _, _, _, _, _, _, _ => none
 | k + 1, x9, x10, x11, x298000, x298001, x298002, x299000, x299001, x300000, x300001, x300002, x301000, x301001, x301002 => if x11 < (x9.length : Int) then (if x11 < (x10.length : Int) then (if 0 ≤ x11 then (spec_l08Rival.j1 k x9 x10 x11 ((rd x9 x11) == (rd x10 x11)) x298000 x298001 x298002 x299000 x299001 x300000 x300001 x300002 x301000 x301001 x301002) else (none)) else (spec_l08Rival.j1 k x9 x10 x11 false x298000 x298001 x298002 x299000 x299001 x300000 x300001 x300002 x301000 x301001 x301002)) else (spec_l08Rival.j1 k x9 x10 x11 false x298000 x298001 x298002 x299000 x299001 x300000 x300001 x300002 x301000 x301001 x301002)
def spec_l08Rival.j1 : Nat → List Int → List Int → Int → Bool → Int → Int → List (S113) → List (S39) → List (S39) → Int → Int → Int → Int → Int → Int → Option (Bool)
 | 0, _, _, _, _, _, _, _, _, _, _, _, _, _, _, _ => none
 | k + 1, x9, x10, x11, x42, x298000, x298001, x298002, x299000, x299001, x300000, x300001, x300002, x301000, x301001, x301002 => if x42 = true then (if 0 ≤ x11 then (if x11 < (x9.length : Int) then ((spec_l07At.f k x298000 x298001 x298002 x299000 x300000 (rd x9 x11)).bind fun t310 => ((spec_l07Need.f x300000 x300001 x300002 (rd x9 x11)).bind fun t312 => ((spec_l07Join.f k t310 t312).bind fun t313 => ((spec_l07At.f k x298000 x298001 x298002 x299000 x301000 (rd x9 x11)).bind fun t315 => ((spec_l07Need.f x301000 x301001 x301002 (rd x9 x11)).bind fun t317 => ((spec_l07Join.f k t315 t317).bind fun t318 => ((spec_l07Fits.f k t313 t318).bind fun t319 => (if t319 = true then (spec_l08Rival.l0 k x9 x10 (wrap64 (x11 + 1)) x298000 x298001 x298002 x299000 x299001 x300000 x300001 x300002 x301000 x301001 x301002) else (some true))))))))) else (none)) else (none)) else (some false)
end
def spec_l08Rival.f (k : Nat) (a0_0 : Int) (a0_1 : Int) (l0_2 : List (S113)) (l1_0 : List (S39)) (l1_1 : List (S39)) (a2_0 : Int) (a2_1 : Int) (a2_2 : Int) (a3_0 : Int) (a3_1 : Int) (a3_2 : Int) : Option (Bool) := (spec_l02Path.f k a0_0 a0_1 l0_2 a2_1).bind fun t301 => ((spec_l02Path.f k a0_0 a0_1 l0_2 a3_1).bind fun t304 => (spec_l08Rival.l0 k t301 t304 0 a0_0 a0_1 l0_2 l1_0 l1_1 a2_0 a2_1 a2_2 a3_0 a3_1 a3_2))
def spec_l08Rival.T4 : Bool × List (List Nat × List Nat) := (true, [([], []), ([], []), ([1], [1]), ([0, 2], [0, 2]), ([3], [3]), ([4], [4]), ([4], [4]), ([6, 4], [4, 6]), ([5, 7, 4], [4, 5, 7]), ([4, 8], [4, 8]), ([9, 4], [9]), ([10], [10]), ([10], [10]), ([11, 12, 10], [10, 11, 12]), ([13, 10], [10, 13]), ([10], [10]), ([10], [10]), ([15, 16, 10], [10, 15, 16]), ([17, 10], [10, 17]), ([14, 18, 10], [10, 14, 18]), ([10, 19], [10, 19])])
def spec_l08Rival.B4 : List Nat := [0, 0, 2, 7, 15, 31, 31, 95, 255, 511, 1023, 2047, 2047, 8191, 16383, 2047, 2047, 100351, 231423, 524287, 1048575]
theorem spec_l08Rival.tab4 : rtab .any (opsOf Tryz.f103 4) = spec_l08Rival.T4 := by kernel_rfl
theorem spec_l08Rival.bits4 : waitsOk spec_l08Rival.T4.2 spec_l08Rival.B4 = true := by kernel_rfl
def spec_l08Rival.T6 : Bool × List (List Nat × List Nat) := (true, [([], []), ([], []), ([1], [1]), ([], []), ([3], [3]), ([], []), ([], []), ([5, 6], [5, 6]), ([7], [7]), ([0, 2, 4, 8], [0, 2, 4, 8]), ([], []), ([], []), ([], []), ([11, 12], [11, 12]), ([13], [13]), ([10, 14, 9], [10, 14]), ([9, 15, 15], [9, 15]), ([16, 16, 0, 1, 2, 3, 4, 5, 6, 7, 8, 9, 10, 11, 12, 13, 14, 15, 16], [16])])
def spec_l08Rival.B6 : List Nat := [0, 0, 2, 0, 8, 0, 0, 96, 224, 511, 0, 0, 0, 6144, 14336, 32767, 65535, 131071]
theorem spec_l08Rival.tab6 : rtab .any (opsOf Tryz.f103 6) = spec_l08Rival.T6 := by kernel_rfl
theorem spec_l08Rival.bits6 : waitsOk spec_l08Rival.T6.2 spec_l08Rival.B6 = true := by kernel_rfl
def spec_l08Rival.T7 : Bool × List (List Nat × List Nat) := (true, [([], []), ([], []), ([1], [1]), ([], []), ([3], [3]), ([], []), ([], []), ([5, 6], [5, 6]), ([7], [7]), ([0, 2, 4, 8], [0, 2, 4, 8]), ([], []), ([], []), ([], []), ([11, 12], [11, 12]), ([13], [13]), ([10, 14, 9], [10, 14]), ([9, 15, 15], [9, 15]), ([16, 16, 0, 1, 2, 3, 4, 5, 6, 7, 8, 9, 10, 11, 12, 13, 14, 15, 16], [16])])
def spec_l08Rival.B7 : List Nat := [0, 0, 2, 0, 8, 0, 0, 96, 224, 511, 0, 0, 0, 6144, 14336, 32767, 65535, 131071]
theorem spec_l08Rival.tab7 : rtab .any (opsOf Tryz.f103 7) = spec_l08Rival.T7 := by kernel_rfl
theorem spec_l08Rival.bits7 : waitsOk spec_l08Rival.T7.2 spec_l08Rival.B7 = true := by kernel_rfl
theorem spec_l08Rival.calls (k : Nat) (a0_0 : Int) (a0_1 : Int) (A0_2 : Option Addr) (c0_2 : Nat) (l0_2 : List (S113)) (A1_0 : Option Addr) (c1_0 : Nat) (l1_0 : List (S39)) (A1_1 : Option Addr) (c1_1 : Nat) (l1_1 : List (S39)) (a2_0 : Int) (a2_1 : Int) (a2_2 : Int) (a3_0 : Int) (a3_1 : Int) (a3_2 : Int) (r : Bool) (w : World) (hr0_2 : Kd.C k113 w A0_2 l0_2.length l0_2) (hc0_2 : l0_2.length ≤ c0_2) (hr1_0 : Kd.C k39 w A1_0 l1_0.length l1_0) (hc1_0 : l1_0.length ≤ c1_0) (hr1_1 : Kd.C k39 w A1_1 l1_1.length l1_1) (hc1_1 : l1_1.length ≤ c1_1) (h : spec_l08Rival.f k a0_0 a0_1 l0_2 l1_0 l1_1 a2_0 a2_1 a2_2 a3_0 a3_1 a3_2 = some r) :
  Calls Tryz.prog 103 #[.agg #[.int .i64 a0_0, .int .i64 a0_1, .slice A0_2 l0_2.length c0_2], .agg #[.slice A1_0 l1_0.length c1_0, .slice A1_1 l1_1.length c1_1], .agg #[.int .i64 a2_0, .int .i64 a2_1, .int .i64 a2_2], .agg #[.int .i64 a3_0, .int .i64 a3_1, .int .i64 a3_2]] w fun e w' => e = .returned (.bool r) ∧ Below w.heap.size w w' := by
 have hu35 := Tryz.underlying35
 have hu53 := Tryz.underlying53
 have hu39 := Tryz.underlying39
 have HR0_2 := Aside0.mk hr0_2
 have HC0_2 := Aside0.mk hc0_2
 clear hr0_2 hc0_2
 have HR1_0 := Aside0.mk hr1_0
 have HC1_0 := Aside0.mk hc1_0
 clear hr1_0 hc1_0
 have HR1_1 := Aside0.mk hr1_1
 have HC1_1 := Aside0.mk hc1_1
 clear hr1_1 hc1_1
 have HB := Aside0.mk (Below.refl w.heap.size w)
 have H : ((spec_l02Path.f k a0_0 a0_1 l0_2 a2_1).bind fun t301 => ((spec_l02Path.f k a0_0 a0_1 l0_2 a3_1).bind fun t304 => (spec_l08Rival.l0 k t301 t304 0 a0_0 a0_1 l0_2 l1_0 l1_1 a2_0 a2_1 a2_2 a3_0 a3_1 a3_2))) = some r := h
 clear h
 obtain ⟨t301, A5, H⟩ := Xbi H
 try dsimp only at H
 obtain ⟨t304, A6, H⟩ := Xbi H
 try dsimp only at H
 have H' := Aside0.mk H
 clear H
 go_enter Tryz.func103, Tryz.ntmps103
 go_wp2_with (first | ((with_reducible refine gate_dst (N := 4) rfl ?_); (try (refine gate_guard (by rfl) ?_; dsimp only)); refine Xbox 4 #[.int .i64 a0_0, .int .i64 a0_1, .slice A0_2 l0_2.length c0_2] 35 ?_; intro gb297 hg w7 hbox hb; have BK297 := Aside0.mk (hbox); have GE297 := Xge hg Xi; replace HB := Aside0.mk (below_step Xi hb); clear hb hbox hg) | ((with_reducible refine gate_dst (N := 5) rfl ?_); (try (refine gate_guard (by rfl) ?_; dsimp only)); refine Xbox 5 #[.slice A1_0 l1_0.length c1_0, .slice A1_1 l1_1.length c1_1] 53 ?_; intro gb298 hg w8 hbox hb; have BK298 := Aside0.mk (hbox); have GE298 := Xge hg Xi; replace HB := Aside0.mk (below_step Xi hb); have NB297_298 := Xnb hg BK297; have NB298_297 := Xns NB297_298; replace BK297 := Xbb BK297 hb; clear hb hbox hg) | ((with_reducible refine gate_dst (N := 6) rfl ?_); (try (refine gate_guard (by rfl) ?_; dsimp only)); refine Xbox 6 #[.int .i64 a2_0, .int .i64 a2_1, .int .i64 a2_2] 39 ?_; intro gb299 hg w9 hbox hb; have BK299 := Aside0.mk (hbox); have GE299 := Xge hg Xi; replace HB := Aside0.mk (below_step Xi hb); have NB297_299 := Xnb hg BK297; have NB299_297 := Xns NB297_299; replace BK297 := Xbb BK297 hb; have NB298_299 := Xnb hg BK298; have NB299_298 := Xns NB298_299; replace BK298 := Xbb BK298 hb; clear hb hbox hg) | ((with_reducible refine gate_dst (N := 7) rfl ?_); (try (refine gate_guard (by rfl) ?_; dsimp only)); refine Xbox 7 #[.int .i64 a3_0, .int .i64 a3_1, .int .i64 a3_2] 39 ?_; intro gb300 hg w10 hbox hb; have BK300 := Aside0.mk (hbox); have GE300 := Xge hg Xi; replace HB := Aside0.mk (below_step Xi hb); have NB297_300 := Xnb hg BK297; have NB300_297 := Xns NB297_300; replace BK297 := Xbb BK297 hb; have NB298_300 := Xnb hg BK298; have NB300_298 := Xns NB298_300; replace BK298 := Xbb BK298 hb; have NB299_300 := Xnb hg BK299; have NB300_299 := Xns NB299_300; replace BK299 := Xbb BK299 hb; clear hb hbox hg; have hnb11 := NB297_298.out; have hnc11 := NB298_297.out; have hnb12 := NB297_299.out; have hnc12 := NB299_297.out; have hnb13 := NB297_300.out; have hnc13 := NB300_297.out; obtain ⟨hcz14_0, hcz14_1, hcz14_2⟩ := Xc3 BK297; have hnb15 := NB299_298.out; have hnc15 := NB298_299.out; have hnb16 := NB299_300.out; have hnc16 := NB300_299.out; obtain ⟨hcz17_0, hcz17_1, hcz17_2⟩ := Xc3 BK299) | ((with_reducible refine gate_callee (f := 134) rfl ?_); refine Xgo 17 Tryz.func134 #[.agg #[.int .i64 a0_0, .int .i64 a0_1, .slice A0_2 l0_2.length c0_2], .int .i64 a2_1] ?_; (with_reducible refine (spec_l02Path.calls k a0_0 a0_1 _ _ l0_2 a2_1 t301 _ ?side1 ?side2 A5.out).mono ?_); (case side1 => exact Xc HR0_2); (case side2 => exact HC0_2.out); rintro e w18 ⟨v302, rfl, ho0, hb⟩; refine ⟨_, rfl, ?_⟩; have HO303 := Aside0.mk (Kd.R_lower ho0 (below_size Xi)); replace BK297 := Xbb BK297 hb; replace BK298 := Xbb BK298 hb; replace BK299 := Xbb BK299 hb; replace BK300 := Xbb BK300 hb; replace HB := Aside0.mk (below_step Xi hb); clear hb; (try clear ho0); obtain ⟨hcz19_0, hcz19_1, hcz19_2⟩ := Xc3 BK297; have hnb20 := NB300_298.out; have hnc20 := NB298_300.out; obtain ⟨hcz21_0, hcz21_1, hcz21_2⟩ := Xc3 BK300) | ((with_reducible refine gate_callee (f := 134) rfl ?_); refine Xgo 21 Tryz.func134 #[.agg #[.int .i64 a0_0, .int .i64 a0_1, .slice A0_2 l0_2.length c0_2], .int .i64 a3_1] ?_; (with_reducible refine (spec_l02Path.calls k a0_0 a0_1 _ _ l0_2 a3_1 t304 _ ?side1 ?side2 A6.out).mono ?_); (case side1 => exact Xc HR0_2); (case side2 => exact HC0_2.out); rintro e w22 ⟨v305, rfl, ho0, hb⟩; refine ⟨_, rfl, ?_⟩; have HO306 := Aside0.mk (Kd.R_lower (Kd.R_new' ho0 (Kd.R_lt (Xq HO303))) (below_size Xi)); replace HO303 := Aside0.mk (Kd.R_elder' (Xq HO303) (Kd.R_base ho0) hb); replace BK297 := Xbb BK297 hb; replace BK298 := Xbb BK298 hb; replace BK299 := Xbb BK299 hb; replace BK300 := Xbb BK300 hb; replace HB := Aside0.mk (below_step Xi hb); clear hb; (try clear ho0)))
 go_loopg [11] k (fun kq v11 w' => ∃ (x11_1 : Int), v11 = .int .i64 x11_1 ∧ Aside0 (spec_l08Rival.l0 kq t301 t304 x11_1 a0_0 a0_1 l0_2 l1_0 l1_1 a2_0 a2_1 a2_2 a3_0 a3_1 a3_2 = some r) ∧ Aside0 (kq ≤ k) ∧ Aside0 (Kd.R (Kd.int .i64) 3 w' w.heap.size (fun k_ => some k_ ≠ (v305 : Value).ownBlock) v302 t301) ∧ Aside0 (Kd.R (Kd.int .i64) 3 w' w.heap.size (fun k_ => some k_ ≠ (v302 : Value).ownBlock) v305 t304) ∧ Aside0 (w'.heap[gb297]? = some (.cells #[.int .i64 a0_0, .int .i64 a0_1, (.slice A0_2 l0_2.length c0_2)] 35 (0, 0))) ∧ Aside0 (w'.heap[gb298]? = some (.cells #[(.slice A1_0 l1_0.length c1_0), (.slice A1_1 l1_1.length c1_1)] 53 (0, 0))) ∧ Aside0 (w'.heap[gb299]? = some (.cells #[.int .i64 a2_0, .int .i64 a2_1, .int .i64 a2_2] 39 (0, 0))) ∧ Aside0 (w'.heap[gb300]? = some (.cells #[.int .i64 a3_0, .int .i64 a3_1, .int .i64 a3_2] 39 (0, 0))) ∧ Aside0 (Below w.heap.size w w'))
 case atStart => exact ⟨(0), Xr, H', Xkr, ⟨by (with_reducible repeat (first | apply Kd.R_alloc | apply Kd.R_drewN | apply Kd.R_drew)); exact Kd.R_mono HO303.out (fun _ hk => hk.2)⟩, ⟨by (with_reducible repeat (first | apply Kd.R_alloc | apply Kd.R_drewN | apply Kd.R_drew)); exact Kd.R_mono HO306.out (fun _ hk => hk.2)⟩, BK297, BK298, BK299, BK300, ⟨Xi⟩⟩
 clear H'
 (try clear hcz14_0); (try clear hcz14_1); (try clear hcz14_2); (try clear hcz17_0); (try clear hcz17_1); (try clear hcz17_2); (try clear hcz19_0); (try clear hcz19_1); (try clear hcz19_2); (try clear hcz21_0); (try clear hcz21_1); (try clear hcz21_2)
 obtain ⟨x11_1, rfl, HA, HK1, HO_9, HO_10, BK297, BK298, BK299, BK300, HB⟩ := hrel
 cases gk with | zero => cases HA.out | succ k1 => ?_
 have H := HA.out
 clear HA
 simp only [spec_l08Rival.l0] at H
 have HC23 := Aside0.mk H
 clear H
 go_upto_region 4 with (fail)
 go_cut [42] (fun v42 wc => ∃ (kq : Nat) (x42_22 : Bool), v42 = .bool x42_22 ∧ Aside0 (spec_l08Rival.j1 kq t301 t304 x11_1 x42_22 a0_0 a0_1 l0_2 l1_0 l1_1 a2_0 a2_1 a2_2 a3_0 a3_1 a3_2 = some r) ∧ Aside0 (kq ≤ k1) ∧ Aside0 (Kd.R (Kd.int .i64) 3 wc w.heap.size (fun k_ => some k_ ≠ (v305 : Value).ownBlock) v302 t301) ∧ Aside0 (Kd.R (Kd.int .i64) 3 wc w.heap.size (fun k_ => some k_ ≠ (v302 : Value).ownBlock) v305 t304) ∧ Aside0 (wc.heap[gb297]? = some (.cells #[.int .i64 a0_0, .int .i64 a0_1, (.slice A0_2 l0_2.length c0_2)] 35 (0, 0))) ∧ Aside0 (wc.heap[gb298]? = some (.cells #[(.slice A1_0 l1_0.length c1_0), (.slice A1_1 l1_1.length c1_1)] 53 (0, 0))) ∧ Aside0 (wc.heap[gb299]? = some (.cells #[.int .i64 a2_0, .int .i64 a2_1, .int .i64 a2_2] 39 (0, 0))) ∧ Aside0 (wc.heap[gb300]? = some (.cells #[.int .i64 a3_0, .int .i64 a3_1, .int .i64 a3_2] 39 (0, 0))) ∧ Aside0 (Below w.heap.size w wc))
 case first =>
  have H := HC23.out
  clear HC23
  obtain ⟨c24b0, H⟩ | ⟨c24b0, H⟩ := Xit H
  ·(first | rw [c24b0] | (simp only [i64_w, i32_w]; rw [c24b0]) | skip)
   obtain ⟨c25b0, H⟩ | ⟨c25b0, H⟩ := Xit H
   ·obtain ⟨c26b0, H⟩ := Xid H
    have H' := Aside0.mk H
    clear H
    try go_wp2_with (fail)
    replace HO_9 := Aside0.mk (Kd.R_drew HO_9.out)
    replace HO_10 := Aside0.mk (Kd.R_drew HO_10.out)
    replace BK297 := Aside0.mk (blk_drew BK297.out)
    replace BK298 := Aside0.mk (blk_drew BK298.out)
    replace BK299 := Aside0.mk (blk_drew BK299.out)
    replace BK300 := Aside0.mk (blk_drew BK300.out)
    replace HB := Aside0.mk (below_drew1 HB.out)
    obtain ⟨Ao28, co28, eo28⟩ := Kd.R_slice HO_9.out
    (first | subst eo28 | (injection eo28 with f1_ f2_ f3_; have f4_ := f1_.symm; have f5_ := f3_.symm; clear f1_ f2_ f3_; subst f4_; subst f5_))
    obtain ⟨Ao29, co29, eo29⟩ := Kd.R_slice HO_10.out
    (first | subst eo29 | (injection eo29 with f1_ f2_ f3_; have f4_ := f1_.symm; have f5_ := f3_.symm; clear f1_ f2_ f3_; subst f4_; subst f5_))
    have p307 : 0 ≤ (x11_1 : Int) := of_decide_eq_true Xa
    have q307 : x11_1 < (t301.length : Int) := of_decide_eq_true Xa
    obtain ⟨ad307, e307, hx307_0⟩ := Kd.at_int (Kd.R_reads' HO_9.out).2.2 x11_1 p307 q307
    cases e307
    replace p307 := eq_true p307
    replace q307 := eq_true q307
    have p308 : 0 ≤ (x11_1 : Int) := of_decide_eq_true Xa
    have q308 : x11_1 < (t304.length : Int) := of_decide_eq_true Xa
    obtain ⟨ad308, e308, hx308_0⟩ := Kd.at_int (Kd.R_reads' HO_10.out).2.2 x11_1 p308 q308
    cases e308
    replace p308 := eq_true p308
    replace q308 := eq_true q308
    refine start_ (n := 21) (S := fun w' => w'.cell? (ad307.add (x11_1).toNat) = some (.int .i64 (rd t301 x11_1)) ∧ w'.cell? (ad308.add (x11_1).toNat) = some (.int .i64 (rd t304 x11_1))) (ds := []) #[false, false, false, false, false, false, false, false, false, false, false, false, false, false, false, false, false, false, false, false, false] (by kernel_rfl) rfl rfl ⟨hx307_0, hx308_0⟩ (fun hHeld => ?_); refine with_tabW spec_l08Rival.tab4 spec_l08Rival.bits4 (fun HT_ HW_ => ?_)
    generalize wr.drew = w27 at HO_9 HO_10 BK297 BK298 BK299 BK300 HB hx307_0 hx308_0 hHeld ⊢
    refine Xpu 0 22 (XW.bs 21 1) HT_.out ?_
    refine Xpu 1 23 (XW.bs 21 3) HT_.out ?_
    refine Xpu 2 24 (XW.bs 21 7) HT_.out ?_
    refine Xpu 3 25 (XW.bs 21 15) HT_.out ?_
    refine Xpu 4 26 (XW.bs 21 31) HT_.out ?_
    refine Xpu 5 27 (XW.bs 21 63) HT_.out ?_
    refine Xpu 6 28 (XW.bs 21 127) HT_.out ?_
    refine Xpu 7 29 (XW.bs 21 255) HT_.out ?_
    refine Xpu 8 30 (XW.bs 21 511) HT_.out ?_
    refine Xpu 9 31 (XW.bs 21 1023) HT_.out ?_
    refine Xpu 10 32 (XW.bs 21 2047) HT_.out ?_
    refine Xpu 11 33 (XW.bs 21 4095) HT_.out ?_
    refine Xpu 12 34 (XW.bs 21 8191) HT_.out ?_
    refine Xpu 13 35 (XW.bs 21 16383) HT_.out ?_
    refine Xpu 15 37 (XW.bs 21 49151) HT_.out ?_
    refine Xpu 16 38 (XW.bs 21 114687) HT_.out ?_
    refine Xpu 17 39 (XW.bs 21 245759) HT_.out ?_
    refine Xta 14 36 (XW.bs 21 262143) HT_.out HW_.out hHeld ?_
    refine Xta 18 40 (XW.bs 21 524287) HT_.out HW_.out hHeld ?_
    refine Xpu 19 41 (XW.bs 21 1048575) HT_.out ?_
    refine Xpu 20 42 (XW.bs 21 2097151) HT_.out ?_
    refine done_ (done_of HT_.out (by kernel_rfl)) ?_
    try go_wp2_with (fail)
    go_meet
    case rel => exact ⟨_, (((rd t301 x11_1) == (rd t304 x11_1))), Xr, H', ⟨by have := HK1.out; first | omega | exact Nat.le_refl _⟩, (Xp' HO_9), (Xp' HO_10), BK297, BK298, BK299, BK300, ⟨Xi⟩⟩
   have H' := Aside0.mk H
   clear H
   try go_wp2_with (fail)
   replace HO_9 := Aside0.mk (Kd.R_drew HO_9.out)
   replace HO_10 := Aside0.mk (Kd.R_drew HO_10.out)
   replace BK297 := Aside0.mk (blk_drew BK297.out)
   replace BK298 := Aside0.mk (blk_drew BK298.out)
   replace BK299 := Aside0.mk (blk_drew BK299.out)
   replace BK300 := Aside0.mk (blk_drew BK300.out)
   replace HB := Aside0.mk (below_drew1 HB.out)
   obtain ⟨Ao31, co31, eo31⟩ := Kd.R_slice HO_9.out
   (first | subst eo31 | (injection eo31 with f1_ f2_ f3_; have f4_ := f1_.symm; have f5_ := f3_.symm; clear f1_ f2_ f3_; subst f4_; subst f5_))
   obtain ⟨Ao32, co32, eo32⟩ := Kd.R_slice HO_10.out
   (first | subst eo32 | (injection eo32 with f1_ f2_ f3_; have f4_ := f1_.symm; have f5_ := f3_.symm; clear f1_ f2_ f3_; subst f4_; subst f5_))
   refine start_ (n := 21) (S := fun w' => True) (ds := []) #[false, false, false, false, false, false, false, false, false, false, false, false, false, false, false, false, false, false, false, false, false] (by kernel_rfl) rfl rfl trivial (fun hHeld => ?_); refine with_tabW spec_l08Rival.tab4 spec_l08Rival.bits4 (fun HT_ HW_ => ?_)
   generalize wr.drew = w30 at HO_9 HO_10 BK297 BK298 BK299 BK300 HB hHeld ⊢
   refine Xpu 0 22 (XW.bs 21 1) HT_.out ?_
   refine Xpu 1 23 (XW.bs 21 3) HT_.out ?_
   refine Xpu 2 24 (XW.bs 21 7) HT_.out ?_
   refine Xpu 3 25 (XW.bs 21 15) HT_.out ?_
   refine Xpu 4 26 (XW.bs 21 31) HT_.out ?_
   refine Xpu 5 27 (XW.bs 21 63) HT_.out ?_
   refine Xpu 6 28 (XW.bs 21 127) HT_.out ?_
   refine Xpu 7 29 (XW.bs 21 255) HT_.out ?_
   refine Xpu 8 30 (XW.bs 21 511) HT_.out ?_
   refine Xpu 9 31 (XW.bs 21 1023) HT_.out ?_
   refine Xpu 10 32 (XW.bs 21 2047) HT_.out ?_
   refine Xpn 11 33 (XW.bs 21 4095) HT_.out ?_
   refine Xpn 12 34 (XW.bs 21 8191) HT_.out ?_
   refine Xpn 13 35 (XW.bs 21 16383) HT_.out ?_
   refine Xpn 14 36 (XW.bs 21 32767) HT_.out ?_
   refine Xpn 15 37 (XW.bs 21 65535) HT_.out ?_
   refine Xpn 16 38 (XW.bs 21 131071) HT_.out ?_
   refine Xpn 17 39 (XW.bs 21 262143) HT_.out ?_
   refine Xpn 18 40 (XW.bs 21 524287) HT_.out ?_
   refine Xpn 19 41 (XW.bs 21 1048575) HT_.out ?_
   refine Xpu 20 42 (XW.bs 21 2097151) HT_.out ?_
   refine done_ (done_of HT_.out (by kernel_rfl)) ?_
   try go_wp2_with (fail)
   go_meet
   case rel => exact ⟨_, (false), Xr, H', ⟨by have := HK1.out; first | omega | exact Nat.le_refl _⟩, (Xp' HO_9), (Xp' HO_10), BK297, BK298, BK299, BK300, ⟨Xi⟩⟩
  (first | rw [c24b0] | (simp only [i64_w, i32_w]; rw [c24b0]) | skip)
  have H' := Aside0.mk H
  clear H
  try go_wp2_with (fail)
  replace HO_9 := Aside0.mk (Kd.R_drew HO_9.out)
  replace HO_10 := Aside0.mk (Kd.R_drew HO_10.out)
  replace BK297 := Aside0.mk (blk_drew BK297.out)
  replace BK298 := Aside0.mk (blk_drew BK298.out)
  replace BK299 := Aside0.mk (blk_drew BK299.out)
  replace BK300 := Aside0.mk (blk_drew BK300.out)
  replace HB := Aside0.mk (below_drew1 HB.out)
  obtain ⟨Ao34, co34, eo34⟩ := Kd.R_slice HO_9.out
  (first | subst eo34 | (injection eo34 with f1_ f2_ f3_; have f4_ := f1_.symm; have f5_ := f3_.symm; clear f1_ f2_ f3_; subst f4_; subst f5_))
  refine start_ (n := 21) (S := fun w' => True) (ds := []) #[false, false, false, false, false, false, false, false, false, false, false, false, false, false, false, false, false, false, false, false, false] (by kernel_rfl) rfl rfl trivial (fun hHeld => ?_); refine with_tabW spec_l08Rival.tab4 spec_l08Rival.bits4 (fun HT_ HW_ => ?_)
  generalize wr.drew = w33 at HO_9 HO_10 BK297 BK298 BK299 BK300 HB hHeld ⊢
  refine Xpu 0 22 (XW.bs 21 1) HT_.out ?_
  refine Xpu 1 23 (XW.bs 21 3) HT_.out ?_
  refine Xpu 2 24 (XW.bs 21 7) HT_.out ?_
  refine Xpu 3 25 (XW.bs 21 15) HT_.out ?_
  refine Xpu 4 26 (XW.bs 21 31) HT_.out ?_
  refine Xpn 5 27 (XW.bs 21 63) HT_.out ?_
  refine Xpn 6 28 (XW.bs 21 127) HT_.out ?_
  refine Xpn 7 29 (XW.bs 21 255) HT_.out ?_
  refine Xpn 8 30 (XW.bs 21 511) HT_.out ?_
  refine Xpu 9 31 (XW.bs 21 1023) HT_.out ?_
  refine Xpu 10 32 (XW.bs 21 2047) HT_.out ?_
  refine Xpn 11 33 (XW.bs 21 4095) HT_.out ?_
  refine Xpn 12 34 (XW.bs 21 8191) HT_.out ?_
  refine Xpn 13 35 (XW.bs 21 16383) HT_.out ?_
  refine Xpn 14 36 (XW.bs 21 32767) HT_.out ?_
  refine Xpn 15 37 (XW.bs 21 65535) HT_.out ?_
  refine Xpn 16 38 (XW.bs 21 131071) HT_.out ?_
  refine Xpn 17 39 (XW.bs 21 262143) HT_.out ?_
  refine Xpn 18 40 (XW.bs 21 524287) HT_.out ?_
  refine Xpn 19 41 (XW.bs 21 1048575) HT_.out ?_
  refine Xpu 20 42 (XW.bs 21 2097151) HT_.out ?_
  refine done_ (done_of HT_.out (by kernel_rfl)) ?_
  try go_wp2_with (fail)
  go_meet
  case rel => exact ⟨_, (false), Xr, H', ⟨by have := HK1.out; first | omega | exact Nat.le_refl _⟩, (Xp' HO_9), (Xp' HO_10), BK297, BK298, BK299, BK300, ⟨Xi⟩⟩
 clear HC23
 (try clear hcz14_0); (try clear hcz14_1); (try clear hcz14_2); (try clear hcz17_0); (try clear hcz17_1); (try clear hcz17_2); (try clear hcz19_0); (try clear hcz19_1); (try clear hcz19_2); (try clear hcz21_0); (try clear hcz21_1); (try clear hcz21_2)
 obtain ⟨kq, x42_22, rfl, HA, HJ22, HO_9, HO_10, BK297, BK298, BK299, BK300, HB⟩ := hcut
 cases kq with | zero => cases HA.out | succ kj22 => ?_
 have H := HA.out
 clear HA
 simp only [spec_l08Rival.j1] at H
 by_cases c35 : x42_22 = true
 ·subst c35
  try rw [if_pos rfl] at H
  obtain ⟨c36b0, H⟩ := Xid H
  obtain ⟨c37b0, H⟩ := Xid H
  obtain ⟨t310, A38, H⟩ := Xbi H
  try dsimp only at H
  obtain ⟨t312, A39, H⟩ := Xbi H
  try dsimp only at H
  obtain ⟨t313, A40, H⟩ := Xbi H
  try dsimp only at H
  obtain ⟨t315, A41, H⟩ := Xbi H
  try dsimp only at H
  obtain ⟨t317, A42, H⟩ := Xbi H
  try dsimp only at H
  obtain ⟨t318, A43, H⟩ := Xbi H
  try dsimp only at H
  obtain ⟨t319, A44, H⟩ := Xbi H
  try dsimp only at H
  have HC45 := Aside0.mk H
  clear H
  try go_wp2_with (fail)
  replace HO_9 := Aside0.mk (Kd.R_drew HO_9.out)
  replace HO_10 := Aside0.mk (Kd.R_drew HO_10.out)
  replace BK297 := Aside0.mk (blk_drew BK297.out)
  replace BK298 := Aside0.mk (blk_drew BK298.out)
  replace BK299 := Aside0.mk (blk_drew BK299.out)
  replace BK300 := Aside0.mk (blk_drew BK300.out)
  replace HB := Aside0.mk (below_drew1 HB.out)
  obtain ⟨Ao47, co47, eo47⟩ := Kd.R_slice HO_9.out
  (first | subst eo47 | (injection eo47 with f1_ f2_ f3_; have f4_ := f1_.symm; have f5_ := f3_.symm; clear f1_ f2_ f3_; subst f4_; subst f5_))
  have p309 : 0 ≤ (x11_1 : Int) := of_decide_eq_true Xa
  have q309 : x11_1 < (t301.length : Int) := of_decide_eq_true Xa
  obtain ⟨ad309, e309, hx309_0⟩ := Kd.at_int (Kd.R_reads' HO_9.out).2.2 x11_1 p309 q309
  cases e309
  replace p309 := eq_true p309
  replace q309 := eq_true q309
  have p311 : 0 ≤ (x11_1 : Int) := of_decide_eq_true Xa
  have q311 : x11_1 < (t301.length : Int) := of_decide_eq_true Xa
  obtain ⟨ad311, e311, hx311_0⟩ := Kd.at_int (Kd.R_reads' HO_9.out).2.2 x11_1 p311 q311
  obtain rfl : ad309 = ad311 := (by injection e311)
  replace p311 := eq_true p311
  replace q311 := eq_true q311
  refine start_ (n := 18) (S := fun w' => w'.cell? ⟨gb297, 0, none⟩ = some (.int .i64 a0_0) ∧ w'.cell? ⟨gb297, 1, none⟩ = some (.int .i64 a0_1) ∧ w'.cell? ⟨gb297, 2, none⟩ = some (.slice A0_2 l0_2.length c0_2) ∧ w'.cell? ⟨gb298, 0, none⟩ = some (.slice A1_0 l1_0.length c1_0) ∧ w'.cell? ⟨gb298, 1, none⟩ = some (.slice A1_1 l1_1.length c1_1) ∧ w'.cell? ⟨gb299, 0, none⟩ = some (.int .i64 a2_0) ∧ w'.cell? ⟨gb299, 1, none⟩ = some (.int .i64 a2_1) ∧ w'.cell? ⟨gb299, 2, none⟩ = some (.int .i64 a2_2) ∧ w'.cell? (ad309.add (x11_1).toNat) = some (.int .i64 (rd t301 x11_1)) ∧ w'.cell? (ad309.add (x11_1).toNat) = some (.int .i64 (rd t301 x11_1))) (ds := []) #[false, false, false, false, false, false, false, false, false, false, false, false, false, false, false, false, false, false] (by kernel_rfl) rfl rfl ⟨(blk_cell BK297.out 0).trans rfl, (blk_cell BK297.out 1).trans rfl, (blk_cell BK297.out 2).trans rfl, (blk_cell BK298.out 0).trans rfl, (blk_cell BK298.out 1).trans rfl, (blk_cell BK299.out 0).trans rfl, (blk_cell BK299.out 1).trans rfl, (blk_cell BK299.out 2).trans rfl, hx309_0, hx311_0⟩ (fun hHeld => ?_); refine with_tabW spec_l08Rival.tab6 spec_l08Rival.bits6 (fun HT_ HW_ => ?_)
  generalize wc.drew = w46 at HO_9 HO_10 BK297 BK298 BK299 BK300 HB hx309_0 hx311_0 hHeld ⊢
  refine Xpu 1 46 (XW.bs 18 2) HT_.out ?_
  refine Xpu 3 48 (XW.bs 18 10) HT_.out ?_
  refine Xpu 5 50 (XW.bs 18 42) HT_.out ?_
  refine Xpu 6 51 (XW.bs 18 106) HT_.out ?_
  refine Xpu 7 52 (XW.bs 18 234) HT_.out ?_
  refine Xpu 11 56 (XW.bs 18 2282) HT_.out ?_
  refine Xpu 12 57 (XW.bs 18 6378) HT_.out ?_
  refine Xpu 13 58 (XW.bs 18 14570) HT_.out ?_
  refine Xta 0 45 (XW.bs 18 14571) HT_.out HW_.out hHeld ?_
  refine Xta 2 47 (XW.bs 18 14575) HT_.out HW_.out hHeld ?_
  refine Xta 4 49 (XW.bs 18 14591) HT_.out HW_.out hHeld ?_
  refine Xta 8 53 (XW.bs 18 14847) HT_.out HW_.out hHeld ?_
  refine Xta 10 55 (XW.bs 18 15871) HT_.out HW_.out hHeld ?_
  refine Xta 14 59 (XW.bs 18 32255) HT_.out HW_.out hHeld ?_
  refine one_ (i := 9) (N := some 54) (XW.bs 18 32767) rfl rfl (one_of HT_.out (by kernel_rfl)) (by decide) (fun K hK => ?_)
  refine goes_ Tryz.func77 (by kernel_rfl) rfl #[.agg #[.int .i64 a0_0, .int .i64 a0_1, .slice A0_2 l0_2.length c0_2], .slice A1_0 l1_0.length c1_0, .int .i64 a2_0, .int .i64 (rd t301 x11_1)] (by rfl) rfl rfl (by (try simp only [List.map_toArray, List.map_cons, List.map_nil]); first | done | rfl | (simp only [List.length_drop, List.length_take]; rfl)) ?_
  with_reducible refine (spec_l07At.calls kj22 a0_0 a0_1 _ _ l0_2 _ _ l1_0 a2_0 (rd t301 x11_1) t310 _ ?side1 ?side2 ?side3 ?side4 A38.out).mono ?_
  (case side1 => exact Xc HR0_2)
  (case side2 => exact HC0_2.out)
  (case side3 => exact Xc HR1_0)
  (case side4 => exact HC1_0.out)
  rintro e w48 ⟨rfl, hb⟩
  have HS8_ := (hb.cell (World.block_lt_of_cell? _ _ (hHeld.2.2.2.2.2.2.2.2.1))).trans (hHeld.2.2.2.2.2.2.2.2.1)
  have HS9_ := (hb.cell (World.block_lt_of_cell? _ _ (hHeld.2.2.2.2.2.2.2.2.2))).trans (hHeld.2.2.2.2.2.2.2.2.2)
  refine ⟨_, rfl, ?_⟩
  replace HO_9 := Aside0.mk (Kd.R_below (Xq HO_9) hb)
  replace HO_10 := Aside0.mk (Kd.R_below (Xq HO_10) hb)
  replace BK297 := Xbb BK297 hb
  replace BK298 := Xbb BK298 hb
  replace BK299 := Xbb BK299 hb
  replace BK300 := Xbb BK300 hb
  replace HB := Aside0.mk (below_step Xi hb)
  try clear hb
  try clear hb2
  try clear hk
  try clear hi
  refine hK.out _ _ ⟨(blk_cell BK297.out 0).trans rfl, (blk_cell BK297.out 1).trans rfl, (blk_cell BK297.out 2).trans rfl, (blk_cell BK298.out 0).trans rfl, (blk_cell BK298.out 1).trans rfl, (blk_cell BK299.out 0).trans rfl, (blk_cell BK299.out 1).trans rfl, (blk_cell BK299.out 2).trans rfl, HS8_, HS9_⟩ (fun hHeld => ?_)
  clear hK K
  refine Xno ?_
  refine one_ (i := 15) (N := some 60) (XW.bs 18 65535) rfl rfl (one_of HT_.out (by kernel_rfl)) (by decide) (fun K hK => ?_)
  refine goes_ Tryz.func145 (by kernel_rfl) rfl #[.agg #[.int .i64 a2_0, .int .i64 a2_1, .int .i64 a2_2], .int .i64 (rd t301 x11_1)] (by rfl) rfl rfl (by (try simp only [List.map_toArray, List.map_cons, List.map_nil]); first | done | rfl | (simp only [List.length_drop, List.length_take]; rfl)) ?_
  with_reducible refine (spec_l07Need.calls a2_0 a2_1 a2_2 (rd t301 x11_1) t312 _ A39.out).mono ?_
  rintro e w49 ⟨rfl, hb⟩
  have HS8_ := (hb.cell (World.block_lt_of_cell? _ _ (hHeld.2.2.2.2.2.2.2.2.1))).trans (hHeld.2.2.2.2.2.2.2.2.1)
  have HS9_ := (hb.cell (World.block_lt_of_cell? _ _ (hHeld.2.2.2.2.2.2.2.2.2))).trans (hHeld.2.2.2.2.2.2.2.2.2)
  refine ⟨_, rfl, ?_⟩
  replace HO_9 := Aside0.mk (Kd.R_below (Xq HO_9) hb)
  replace HO_10 := Aside0.mk (Kd.R_below (Xq HO_10) hb)
  replace BK297 := Xbb BK297 hb
  replace BK298 := Xbb BK298 hb
  replace BK299 := Xbb BK299 hb
  replace BK300 := Xbb BK300 hb
  replace HB := Aside0.mk (below_step Xi hb)
  try clear hb
  try clear hb2
  try clear hk
  try clear hi
  refine hK.out _ _ ⟨(blk_cell BK297.out 0).trans rfl, (blk_cell BK297.out 1).trans rfl, (blk_cell BK297.out 2).trans rfl, (blk_cell BK298.out 0).trans rfl, (blk_cell BK298.out 1).trans rfl, (blk_cell BK299.out 0).trans rfl, (blk_cell BK299.out 1).trans rfl, (blk_cell BK299.out 2).trans rfl, HS8_, HS9_⟩ (fun hHeld => ?_)
  clear hK K
  refine Xno ?_
  refine one_ (i := 16) (N := some 61) (XW.bs 18 131071) rfl rfl (one_of HT_.out (by kernel_rfl)) (by decide) (fun K hK => ?_)
  refine goes_ Tryz.func133 (by kernel_rfl) rfl #[.int .i64 t310, .int .i64 t312] (by rfl) rfl rfl (by (try simp only [List.map_toArray, List.map_cons, List.map_nil]); first | done | rfl | (simp only [List.length_drop, List.length_take]; rfl)) ?_
  with_reducible refine (spec_l07Join.calls kj22 t310 t312 t313 _ A40.out).mono ?_
  rintro e w50 ⟨rfl, hb⟩
  have HS8_ := (hb.cell (World.block_lt_of_cell? _ _ (hHeld.2.2.2.2.2.2.2.2.1))).trans (hHeld.2.2.2.2.2.2.2.2.1)
  have HS9_ := (hb.cell (World.block_lt_of_cell? _ _ (hHeld.2.2.2.2.2.2.2.2.2))).trans (hHeld.2.2.2.2.2.2.2.2.2)
  refine ⟨_, rfl, ?_⟩
  replace HO_9 := Aside0.mk (Kd.R_below (Xq HO_9) hb)
  replace HO_10 := Aside0.mk (Kd.R_below (Xq HO_10) hb)
  replace BK297 := Xbb BK297 hb
  replace BK298 := Xbb BK298 hb
  replace BK299 := Xbb BK299 hb
  replace BK300 := Xbb BK300 hb
  replace HB := Aside0.mk (below_step Xi hb)
  try clear hb
  try clear hb2
  try clear hk
  try clear hi
  refine hK.out _ _ ⟨(blk_cell BK297.out 0).trans rfl, (blk_cell BK297.out 1).trans rfl, (blk_cell BK297.out 2).trans rfl, (blk_cell BK298.out 0).trans rfl, (blk_cell BK298.out 1).trans rfl, (blk_cell BK299.out 0).trans rfl, (blk_cell BK299.out 1).trans rfl, (blk_cell BK299.out 2).trans rfl, HS8_, HS9_⟩ (fun hHeld => ?_)
  clear hK K
  refine Xno ?_
  refine Xpu 17 12 (XW.bs 18 262143) HT_.out ?_
  refine done_ (done_of HT_.out (by kernel_rfl)) ?_
  try go_wp2_with (fail)
  replace HO_9 := Aside0.mk (Kd.R_drew HO_9.out)
  replace HO_10 := Aside0.mk (Kd.R_drew HO_10.out)
  replace BK297 := Aside0.mk (blk_drew BK297.out)
  replace BK298 := Aside0.mk (blk_drew BK298.out)
  replace BK299 := Aside0.mk (blk_drew BK299.out)
  replace BK300 := Aside0.mk (blk_drew BK300.out)
  replace HB := Aside0.mk (below_drew1 HB.out)
  have p314 : 0 ≤ (x11_1 : Int) := of_decide_eq_true Xa
  have q314 : x11_1 < (t301.length : Int) := of_decide_eq_true Xa
  obtain ⟨ad314, e314, hx314_0⟩ := Kd.at_int (Kd.R_reads' HO_9.out).2.2 x11_1 p314 q314
  obtain rfl : ad309 = ad314 := (by injection e314)
  replace p314 := eq_true p314
  replace q314 := eq_true q314
  have p316 : 0 ≤ (x11_1 : Int) := of_decide_eq_true Xa
  have q316 : x11_1 < (t301.length : Int) := of_decide_eq_true Xa
  obtain ⟨ad316, e316, hx316_0⟩ := Kd.at_int (Kd.R_reads' HO_9.out).2.2 x11_1 p316 q316
  obtain rfl : ad309 = ad316 := (by injection e316)
  replace p316 := eq_true p316
  replace q316 := eq_true q316
  refine start_ (n := 18) (S := fun w' => w'.cell? ⟨gb297, 0, none⟩ = some (.int .i64 a0_0) ∧ w'.cell? ⟨gb297, 1, none⟩ = some (.int .i64 a0_1) ∧ w'.cell? ⟨gb297, 2, none⟩ = some (.slice A0_2 l0_2.length c0_2) ∧ w'.cell? ⟨gb298, 0, none⟩ = some (.slice A1_0 l1_0.length c1_0) ∧ w'.cell? ⟨gb298, 1, none⟩ = some (.slice A1_1 l1_1.length c1_1) ∧ w'.cell? ⟨gb300, 0, none⟩ = some (.int .i64 a3_0) ∧ w'.cell? ⟨gb300, 1, none⟩ = some (.int .i64 a3_1) ∧ w'.cell? ⟨gb300, 2, none⟩ = some (.int .i64 a3_2) ∧ w'.cell? (ad309.add (x11_1).toNat) = some (.int .i64 (rd t301 x11_1)) ∧ w'.cell? (ad309.add (x11_1).toNat) = some (.int .i64 (rd t301 x11_1))) (ds := []) #[false, false, false, false, false, false, false, false, false, false, false, false, false, false, false, false, false, false] (by kernel_rfl) rfl rfl ⟨(blk_cell BK297.out 0).trans rfl, (blk_cell BK297.out 1).trans rfl, (blk_cell BK297.out 2).trans rfl, (blk_cell BK298.out 0).trans rfl, (blk_cell BK298.out 1).trans rfl, (blk_cell BK300.out 0).trans rfl, (blk_cell BK300.out 1).trans rfl, (blk_cell BK300.out 2).trans rfl, hx314_0, hx316_0⟩ (fun hHeld => ?_); refine with_tabW spec_l08Rival.tab7 spec_l08Rival.bits7 (fun HT_ HW_ => ?_)
  generalize w50.drew = w51 at HO_9 HO_10 BK297 BK298 BK299 BK300 HB hx314_0 hx316_0 hHeld ⊢
  refine Xpu 1 63 (XW.bs 18 2) HT_.out ?_
  refine Xpu 3 65 (XW.bs 18 10) HT_.out ?_
  refine Xpu 5 67 (XW.bs 18 42) HT_.out ?_
  refine Xpu 6 68 (XW.bs 18 106) HT_.out ?_
  refine Xpu 7 69 (XW.bs 18 234) HT_.out ?_
  refine Xpu 11 73 (XW.bs 18 2282) HT_.out ?_
  refine Xpu 12 74 (XW.bs 18 6378) HT_.out ?_
  refine Xpu 13 75 (XW.bs 18 14570) HT_.out ?_
  refine Xta 0 62 (XW.bs 18 14571) HT_.out HW_.out hHeld ?_
  refine Xta 2 64 (XW.bs 18 14575) HT_.out HW_.out hHeld ?_
  refine Xta 4 66 (XW.bs 18 14591) HT_.out HW_.out hHeld ?_
  refine Xta 8 70 (XW.bs 18 14847) HT_.out HW_.out hHeld ?_
  refine Xta 10 72 (XW.bs 18 15871) HT_.out HW_.out hHeld ?_
  refine Xta 14 76 (XW.bs 18 32255) HT_.out HW_.out hHeld ?_
  refine one_ (i := 9) (N := some 71) (XW.bs 18 32767) rfl rfl (one_of HT_.out (by kernel_rfl)) (by decide) (fun K hK => ?_)
  refine goes_ Tryz.func77 (by kernel_rfl) rfl #[.agg #[.int .i64 a0_0, .int .i64 a0_1, .slice A0_2 l0_2.length c0_2], .slice A1_0 l1_0.length c1_0, .int .i64 a3_0, .int .i64 (rd t301 x11_1)] (by rfl) rfl rfl (by (try simp only [List.map_toArray, List.map_cons, List.map_nil]); first | done | rfl | (simp only [List.length_drop, List.length_take]; rfl)) ?_
  with_reducible refine (spec_l07At.calls kj22 a0_0 a0_1 _ _ l0_2 _ _ l1_0 a3_0 (rd t301 x11_1) t315 _ ?side1 ?side2 ?side3 ?side4 A41.out).mono ?_
  (case side1 => exact Xc HR0_2)
  (case side2 => exact HC0_2.out)
  (case side3 => exact Xc HR1_0)
  (case side4 => exact HC1_0.out)
  rintro e w52 ⟨rfl, hb⟩
  have HS8_ := (hb.cell (World.block_lt_of_cell? _ _ (hHeld.2.2.2.2.2.2.2.2.1))).trans (hHeld.2.2.2.2.2.2.2.2.1)
  have HS9_ := (hb.cell (World.block_lt_of_cell? _ _ (hHeld.2.2.2.2.2.2.2.2.2))).trans (hHeld.2.2.2.2.2.2.2.2.2)
  refine ⟨_, rfl, ?_⟩
  replace HO_9 := Aside0.mk (Kd.R_below (Xq HO_9) hb)
  replace HO_10 := Aside0.mk (Kd.R_below (Xq HO_10) hb)
  replace BK297 := Xbb BK297 hb
  replace BK298 := Xbb BK298 hb
  replace BK299 := Xbb BK299 hb
  replace BK300 := Xbb BK300 hb
  replace HB := Aside0.mk (below_step Xi hb)
  try clear hb
  try clear hb2
  try clear hk
  try clear hi
  refine hK.out _ _ ⟨(blk_cell BK297.out 0).trans rfl, (blk_cell BK297.out 1).trans rfl, (blk_cell BK297.out 2).trans rfl, (blk_cell BK298.out 0).trans rfl, (blk_cell BK298.out 1).trans rfl, (blk_cell BK300.out 0).trans rfl, (blk_cell BK300.out 1).trans rfl, (blk_cell BK300.out 2).trans rfl, HS8_, HS9_⟩ (fun hHeld => ?_)
  clear hK K
  refine Xno ?_
  refine one_ (i := 15) (N := some 77) (XW.bs 18 65535) rfl rfl (one_of HT_.out (by kernel_rfl)) (by decide) (fun K hK => ?_)
  refine goes_ Tryz.func145 (by kernel_rfl) rfl #[.agg #[.int .i64 a3_0, .int .i64 a3_1, .int .i64 a3_2], .int .i64 (rd t301 x11_1)] (by rfl) rfl rfl (by (try simp only [List.map_toArray, List.map_cons, List.map_nil]); first | done | rfl | (simp only [List.length_drop, List.length_take]; rfl)) ?_
  with_reducible refine (spec_l07Need.calls a3_0 a3_1 a3_2 (rd t301 x11_1) t317 _ A42.out).mono ?_
  rintro e w53 ⟨rfl, hb⟩
  have HS8_ := (hb.cell (World.block_lt_of_cell? _ _ (hHeld.2.2.2.2.2.2.2.2.1))).trans (hHeld.2.2.2.2.2.2.2.2.1)
  have HS9_ := (hb.cell (World.block_lt_of_cell? _ _ (hHeld.2.2.2.2.2.2.2.2.2))).trans (hHeld.2.2.2.2.2.2.2.2.2)
  refine ⟨_, rfl, ?_⟩
  replace HO_9 := Aside0.mk (Kd.R_below (Xq HO_9) hb)
  replace HO_10 := Aside0.mk (Kd.R_below (Xq HO_10) hb)
  replace BK297 := Xbb BK297 hb
  replace BK298 := Xbb BK298 hb
  replace BK299 := Xbb BK299 hb
  replace BK300 := Xbb BK300 hb
  replace HB := Aside0.mk (below_step Xi hb)
  try clear hb
  try clear hb2
  try clear hk
  try clear hi
  refine hK.out _ _ ⟨(blk_cell BK297.out 0).trans rfl, (blk_cell BK297.out 1).trans rfl, (blk_cell BK297.out 2).trans rfl, (blk_cell BK298.out 0).trans rfl, (blk_cell BK298.out 1).trans rfl, (blk_cell BK300.out 0).trans rfl, (blk_cell BK300.out 1).trans rfl, (blk_cell BK300.out 2).trans rfl, HS8_, HS9_⟩ (fun hHeld => ?_)
  clear hK K
  refine Xno ?_
  refine one_ (i := 16) (N := some 78) (XW.bs 18 131071) rfl rfl (one_of HT_.out (by kernel_rfl)) (by decide) (fun K hK => ?_)
  refine goes_ Tryz.func133 (by kernel_rfl) rfl #[.int .i64 t315, .int .i64 t317] (by rfl) rfl rfl (by (try simp only [List.map_toArray, List.map_cons, List.map_nil]); first | done | rfl | (simp only [List.length_drop, List.length_take]; rfl)) ?_
  with_reducible refine (spec_l07Join.calls kj22 t315 t317 t318 _ A43.out).mono ?_
  rintro e w54 ⟨rfl, hb⟩
  have HS8_ := (hb.cell (World.block_lt_of_cell? _ _ (hHeld.2.2.2.2.2.2.2.2.1))).trans (hHeld.2.2.2.2.2.2.2.2.1)
  have HS9_ := (hb.cell (World.block_lt_of_cell? _ _ (hHeld.2.2.2.2.2.2.2.2.2))).trans (hHeld.2.2.2.2.2.2.2.2.2)
  refine ⟨_, rfl, ?_⟩
  replace HO_9 := Aside0.mk (Kd.R_below (Xq HO_9) hb)
  replace HO_10 := Aside0.mk (Kd.R_below (Xq HO_10) hb)
  replace BK297 := Xbb BK297 hb
  replace BK298 := Xbb BK298 hb
  replace BK299 := Xbb BK299 hb
  replace BK300 := Xbb BK300 hb
  replace HB := Aside0.mk (below_step Xi hb)
  try clear hb
  try clear hb2
  try clear hk
  try clear hi
  refine hK.out _ _ ⟨(blk_cell BK297.out 0).trans rfl, (blk_cell BK297.out 1).trans rfl, (blk_cell BK297.out 2).trans rfl, (blk_cell BK298.out 0).trans rfl, (blk_cell BK298.out 1).trans rfl, (blk_cell BK300.out 0).trans rfl, (blk_cell BK300.out 1).trans rfl, (blk_cell BK300.out 2).trans rfl, HS8_, HS9_⟩ (fun hHeld => ?_)
  clear hK K
  refine Xno ?_
  refine Xpu 17 13 (XW.bs 18 262143) HT_.out ?_
  refine done_ (done_of HT_.out (by kernel_rfl)) ?_
  go_upto_if 82 with (first | ((with_reducible refine gate_callee (f := 146) rfl ?_); refine Xgo 81 Tryz.func146 #[.int .i64 t313, .int .i64 t318] ?_; (with_reducible refine (spec_l07Fits.calls kj22 t313 t318 t319 _ A44.out).mono ?_); rintro e w55 ⟨rfl, hb⟩; refine ⟨_, rfl, ?_⟩; replace HO_9 := Aside0.mk (Kd.R_below (Xq HO_9) hb); replace HO_10 := Aside0.mk (Kd.R_below (Xq HO_10) hb); replace BK297 := Xbb BK297 hb; replace BK298 := Xbb BK298 hb; replace BK299 := Xbb BK299 hb; replace BK300 := Xbb BK300 hb; replace HB := Aside0.mk (below_step Xi hb); clear hb))
  have H := HC45.out
  clear HC45
  by_cases c56 : t319 = true
  ·subst c56
   try rw [if_pos rfl] at H
   have H' := Aside0.mk H
   clear H
   go_wp2
   go_roundg kj22
   case measure => have := HK1.out; have := HJ22.out; omega
   case rel => exact ⟨(wrap64 (x11_1 + 1)), Xr, H', ⟨by have := HK1.out; have := HJ22.out; omega⟩, (Xp' HO_9), (Xp' HO_10), BK297, BK298, BK299, BK300, ⟨Xi⟩⟩
  replace c56 := Bool.eq_false_iff.mpr c56
  subst c56
  try rw [if_neg (show ¬ (false = true) by decide)] at H
  obtain rfl := Option.some.inj H
  go_wp2
  go_ret
  exact ⟨Xe, Xi⟩
 replace c35 := Bool.eq_false_iff.mpr c35
 subst c35
 try rw [if_neg (show ¬ (false = true) by decide)] at H
 obtain rfl := Option.some.inj H
 go_wp2
 go_ret
 exact ⟨Xe, Xi⟩
def spec_l08Rise.l0 : Nat → List Int → Int → List Int → Bool → Int → Option (List Int)
 | 0, _, _, _, _, _ => none
 | k + 1, x0, x1, x5, x6, x7 => if x7 < (x0.length : Int) then (if x6 = true then (if 0 ≤ x7 then (if x5.length < 17592186044416 then (spec_l08Rise.l0 k x0 x1 (x5 ++ [rd x0 x7]) x6 (wrap64 (x7 + 1))) else (none)) else (none)) else (if 0 ≤ x7 then (if (rd x0 x7) > x1 then (if x5.length < 17592186044416 then ((some (x5 ++ [x1] : List Int)).bind fun y328 => (if y328.length < 17592186044416 then (spec_l08Rise.l0 k x0 x1 (y328 ++ [rd x0 x7]) true (wrap64 (x7 + 1))) else (none))) else (none)) else (if x5.length < 17592186044416 then (spec_l08Rise.l0 k x0 x1 (x5 ++ [rd x0 x7]) x6 (wrap64 (x7 + 1))) else (none))) else (none))) else (if x6 = true then (some x5) else (if x5.length < 17592186044416 then (some (x5 ++ [x1])) else (none)))
def spec_l08Rise.f (k : Nat) (l0 : List Int) (a1 : Int) : Option (List Int) := spec_l08Rise.l0 k l0 a1 (([] : List Int)) false 0
theorem spec_l08Rise.calls (k : Nat) (A0 : Option Addr) (c0 : Nat) (l0 : List Int) (a1 : Int) (r : List Int) (w : World) (hr0 : Kd.C (Kd.int .i64) w A0 l0.length l0) (hc0 : l0.length ≤ c0) (h : spec_l08Rise.f k l0 a1 = some r) :
  Calls Tryz.prog 105 #[.slice A0 l0.length c0, .int .i64 a1] w fun e w' => ∃ v0_ : Value, e = .returned (v0_) ∧ Kd.R (Kd.int .i64) 3 w' w.heap.size (fun _ => True) v0_ r ∧ Below w.heap.size w w' := by
 have HR0 := Aside0.mk hr0
 have HC0 := Aside0.mk hc0
 clear hr0 hc0
 have HB := Aside0.mk (Below.refl w.heap.size w)
 have H : (spec_l08Rise.l0 k l0 a1 (([] : List Int)) false 0) = some r := h
 clear h
 obtain ⟨y320, hy320⟩ : ∃ y_ : List Int, y_ = (([] : List Int)) := ⟨_, rfl⟩
 replace H : (spec_l08Rise.l0 k l0 a1 y320 false 0) = some r := by first | (rw [hy320]; with_reducible exact H) | (have H2_ := (Option.bind_some _ _).symm.trans H; rw [hy320]; with_reducible exact H2_) | (have H2_ := (Option.bind_some _ _).symm.trans H; with_reducible exact H2_) | with_reducible exact H | (rw [hy320]; exact H) | exact H
 have Ny320 := Aside0.mk hy320
 clear hy320
 have H' := Aside0.mk H
 clear H
 go_enter Tryz.func105, Tryz.ntmps105
 go_wp2_with (first | ((with_reducible refine gate_dst (N := 8) rfl ?_); refine Kd.R_lit (Kd.int .i64) _ 3 ?hg (N := 8) ?hd (xs := ([] : List Int)) (inner := []) (ok := fun _ => True) (okp := fun _ => True) ?hr ?hp (fun _ hk => hk) trivial (Below.refl _ _) (Nat.le_refl _) (by simp) ?_; (case hd => rfl); (case hg => rfl); (case hr => first | (go_simp; done) | (go_simp; rfl)); (case hp => exact (Reps.none _ _)); intro v321 w3 ho4 hb hg_ hnew_; clear hg_ hnew_; (first | rw [← Ny320.out] at ho4 | (simp only [Int.reduceToNat] at ho4; rw [← Ny320.out] at ho4)); have HO322 := Aside0.mk (Kd.R_lower ho4 (below_size Xi)); replace HB := Aside0.mk (below_step Xi hb); clear hb ho4))
 go_loopg [5, 6, 7] k (fun kq v5 v6 v7 w' => ∃ (x5_1 : List Int) (x6_1 : Bool) (x7_1 : Int), v6 = .bool x6_1 ∧ v7 = .int .i64 x7_1 ∧ Aside0 (spec_l08Rise.l0 kq l0 a1 x5_1 x6_1 x7_1 = some r) ∧ Aside0 (kq ≤ k) ∧ Aside0 (Kd.R (Kd.int .i64) 3 w' w.heap.size (fun _ => True) v5 x5_1) ∧ Aside0 (Below w.heap.size w w'))
 case atStart => exact ⟨(y320), (false), (0), Xr, Xr, H', Xkr, (Xp' HO322), ⟨Xi⟩⟩
 clear H'
 obtain ⟨x5_1, x6_1, x7_1, rfl, rfl, HA, HK1, HO_5, HB⟩ := hrel
 cases gk with | zero => cases HA.out | succ k1 => ?_
 have H := HA.out
 clear HA
 simp only [spec_l08Rise.l0] at H
 obtain ⟨c5b0, H⟩ | ⟨c5b0, H⟩ := Xit H
 ·by_cases c6 : x6_1 = true
  ·subst c6
   try rw [if_pos rfl] at H
   obtain ⟨c7b0, H⟩ := Xid H
   obtain ⟨c8, H⟩ := Xif H
   have LMc8 := Aside0.mk c8
   clear c8
   obtain ⟨y324, hy324⟩ : ∃ y_ : List Int, y_ = (x5_1 ++ [rd l0 x7_1]) := ⟨_, rfl⟩
   replace H : (spec_l08Rise.l0 k1 l0 a1 y324 true (wrap64 (x7_1 + 1))) = some r := by first | (rw [hy324]; with_reducible exact H) | (have H2_ := (Option.bind_some _ _).symm.trans H; rw [hy324]; with_reducible exact H2_) | (have H2_ := (Option.bind_some _ _).symm.trans H; with_reducible exact H2_) | with_reducible exact H | (rw [hy324]; exact H) | exact H
   have Ny324 := Aside0.mk hy324
   clear hy324
   have H' := Aside0.mk H
   clear H
   have p323 : 0 ≤ (x7_1 : Int) := of_decide_eq_true Xa
   have q323 : x7_1 < (l0.length : Int) := of_decide_eq_true Xa
   obtain ⟨ad323, e323, hx323_0⟩ := Kd.at_int HR0.out x7_1 p323 q323
   cases e323
   replace hx323_0 := Xm HB hx323_0
   replace p323 := eq_true p323
   replace q323 := eq_true q323
   go_wp2_with (first | ((with_reducible refine gate_builtin (b := .append) (xs := #[.tmp 29, .tmp 34]) rfl ?_); at_builtin; refine Kd.R_append (Kd.int .i64) (w0 := w) w.heap.size rfl (.tmp 29) (.tmp 34) 30 3 (.int .i64 0) 8 rfl Tryz.underlying30 info3 rfl (by decide) (by omega) u5 x5_1 (rd l0 x7_1) [.int .i64 (rd l0 x7_1)] (fun _ => True) (fun _ => False) rfl rfl ?aP (fun _ hk => hk.elim) ?aF ?aO ?aB ?aS ?aL ?_; (case aP => exact rfl); (case aB => exact Xi); (case aF => exact (fun _ _ => trivial)); (case aO => exact (Xq HO_5)); (case aS => exact (below_size Xi)); (case aL => have := LMc8.out; omega); intro v325 w9 ho hb hg hat; rw [← Ny324.out] at ho; replace HB := Aside0.mk (hb); have HO326 := Aside0.mk (ho); clear HO_5; clear ho hb hg hat))
   go_roundg k1
   case measure => have := HK1.out; omega
   case rel => exact ⟨(y324), (true), (wrap64 (x7_1 + 1)), Xr, Xr, H', Xk1, (Xp' HO326), ⟨Xi⟩⟩
  replace c6 := Bool.eq_false_iff.mpr c6
  subst c6
  try rw [if_neg (show ¬ (false = true) by decide)] at H
  obtain ⟨c10b0, H⟩ := Xid H
  obtain ⟨c11, H⟩ | ⟨c11, H⟩ := Xiu H
  ·have c11b0 : decide (a1 < (rd l0 x7_1)) = true := decide_eq_true c11
   clear c11
   obtain ⟨c12, H⟩ := Xif H
   have LMc12 := Aside0.mk c12
   clear c12
   obtain ⟨y328, hy328⟩ : ∃ y_ : List Int, y_ = (x5_1 ++ [a1]) := ⟨_, rfl⟩
   replace H : (if y328.length < 17592186044416 then (spec_l08Rise.l0 k1 l0 a1 (y328 ++ [rd l0 x7_1]) true (wrap64 (x7_1 + 1))) else (none)) = some r := by first | (rw [hy328]; with_reducible exact H) | (have H2_ := (Option.bind_some _ _).symm.trans H; rw [hy328]; with_reducible exact H2_) | (have H2_ := (Option.bind_some _ _).symm.trans H; with_reducible exact H2_) | with_reducible exact H | (rw [hy328]; exact H) | exact H
   have Ny328 := Aside0.mk hy328
   clear hy328
   obtain ⟨c13, H⟩ := Xif H
   have LMc13 := Aside0.mk c13
   clear c13
   obtain ⟨y332, hy332⟩ : ∃ y_ : List Int, y_ = (y328 ++ [rd l0 x7_1]) := ⟨_, rfl⟩
   replace H : (spec_l08Rise.l0 k1 l0 a1 y332 true (wrap64 (x7_1 + 1))) = some r := by first | (rw [hy332]; with_reducible exact H) | (have H2_ := (Option.bind_some _ _).symm.trans H; rw [hy332]; with_reducible exact H2_) | (have H2_ := (Option.bind_some _ _).symm.trans H; with_reducible exact H2_) | with_reducible exact H | (rw [hy332]; exact H) | exact H
   have Ny332 := Aside0.mk hy332
   clear hy332
   have H' := Aside0.mk H
   clear H
   have p327 : 0 ≤ (x7_1 : Int) := of_decide_eq_true Xa
   have q327 : x7_1 < (l0.length : Int) := of_decide_eq_true Xa
   obtain ⟨ad327, e327, hx327_0⟩ := Kd.at_int HR0.out x7_1 p327 q327
   cases e327
   replace hx327_0 := Xm HB hx327_0
   replace p327 := eq_true p327
   replace q327 := eq_true q327
   go_wp2_with (first | ((with_reducible refine gate_builtin (b := .append) (xs := #[.tmp 25, .tmp 27]) rfl ?_); at_builtin; refine Kd.R_append (Kd.int .i64) (w0 := w) w.heap.size rfl (.tmp 25) (.tmp 27) 30 3 (.int .i64 0) 8 rfl Tryz.underlying30 info3 rfl (by decide) (by omega) u5 x5_1 a1 [.int .i64 a1] (fun _ => True) (fun _ => False) rfl rfl ?aP (fun _ hk => hk.elim) ?aF ?aO ?aB ?aS ?aL ?_; (case aP => exact rfl); (case aB => exact Xi); (case aF => exact (fun _ _ => trivial)); (case aO => exact (Xq HO_5)); (case aS => exact (below_size Xi)); (case aL => have := LMc12.out; omega); intro v329 w14 ho hb hg hat; rw [← Ny328.out] at ho; replace HB := Aside0.mk (hb); have HO330 := Aside0.mk (ho); clear HO_5; clear ho hb hg hat; have p331 : 0 ≤ (x7_1 : Int) := of_decide_eq_true Xa; have q331 : x7_1 < (l0.length : Int) := of_decide_eq_true Xa; obtain ⟨ad331, e331, hx331_0⟩ := Kd.at_int HR0.out x7_1 p331 q331; obtain rfl : ad327 = ad331 := (by injection e331); replace hx331_0 := Xm HB hx331_0; replace p331 := eq_true p331; replace q331 := eq_true q331) | ((with_reducible refine gate_builtin (b := .append) (xs := #[.tmp 29, .tmp 34]) rfl ?_); at_builtin; refine Kd.R_append (Kd.int .i64) (w0 := w) w.heap.size rfl (.tmp 29) (.tmp 34) 30 3 (.int .i64 0) 8 rfl Tryz.underlying30 info3 rfl (by decide) (by omega) v329 y328 (rd l0 x7_1) [.int .i64 (rd l0 x7_1)] (fun _ => True) (fun _ => False) rfl rfl ?aP (fun _ hk => hk.elim) ?aF ?aO ?aB ?aS ?aL ?_; (case aP => exact rfl); (case aB => exact Xi); (case aF => exact (fun _ _ => trivial)); (case aO => exact (Xq HO330)); (case aS => exact (below_size Xi)); (case aL => have := LMc13.out; omega); intro v333 w15 ho hb hg hat; rw [← Ny332.out] at ho; replace HB := Aside0.mk (hb); have HO334 := Aside0.mk (ho); clear HO330; clear ho hb hg hat))
   go_roundg k1
   case measure => have := HK1.out; omega
   case rel => exact ⟨(y332), (true), (wrap64 (x7_1 + 1)), Xr, Xr, H', Xk1, (Xp' HO334), ⟨Xi⟩⟩
  have c11b0 : decide (a1 < (rd l0 x7_1)) = false := decide_eq_false c11
  clear c11
  obtain ⟨c16, H⟩ := Xif H
  have LMc16 := Aside0.mk c16
  clear c16
  obtain ⟨y336, hy336⟩ : ∃ y_ : List Int, y_ = (x5_1 ++ [rd l0 x7_1]) := ⟨_, rfl⟩
  replace H : (spec_l08Rise.l0 k1 l0 a1 y336 false (wrap64 (x7_1 + 1))) = some r := by first | (rw [hy336]; with_reducible exact H) | (have H2_ := (Option.bind_some _ _).symm.trans H; rw [hy336]; with_reducible exact H2_) | (have H2_ := (Option.bind_some _ _).symm.trans H; with_reducible exact H2_) | with_reducible exact H | (rw [hy336]; exact H) | exact H
  have Ny336 := Aside0.mk hy336
  clear hy336
  have H' := Aside0.mk H
  clear H
  have p327 : 0 ≤ (x7_1 : Int) := of_decide_eq_true Xa
  have q327 : x7_1 < (l0.length : Int) := of_decide_eq_true Xa
  obtain ⟨ad327, e327, hx327_0⟩ := Kd.at_int HR0.out x7_1 p327 q327
  cases e327
  replace hx327_0 := Xm HB hx327_0
  replace p327 := eq_true p327
  replace q327 := eq_true q327
  have p335 : 0 ≤ (x7_1 : Int) := of_decide_eq_true Xa
  have q335 : x7_1 < (l0.length : Int) := of_decide_eq_true Xa
  obtain ⟨ad335, e335, hx335_0⟩ := Kd.at_int HR0.out x7_1 p335 q335
  obtain rfl : ad327 = ad335 := (by injection e335)
  replace hx335_0 := Xm HB hx335_0
  replace p335 := eq_true p335
  replace q335 := eq_true q335
  go_wp2_with (first | ((with_reducible refine gate_builtin (b := .append) (xs := #[.tmp 29, .tmp 34]) rfl ?_); at_builtin; refine Kd.R_append (Kd.int .i64) (w0 := w) w.heap.size rfl (.tmp 29) (.tmp 34) 30 3 (.int .i64 0) 8 rfl Tryz.underlying30 info3 rfl (by decide) (by omega) u5 x5_1 (rd l0 x7_1) [.int .i64 (rd l0 x7_1)] (fun _ => True) (fun _ => False) rfl rfl ?aP (fun _ hk => hk.elim) ?aF ?aO ?aB ?aS ?aL ?_; (case aP => exact rfl); (case aB => exact Xi); (case aF => exact (fun _ _ => trivial)); (case aO => exact (Xq HO_5)); (case aS => exact (below_size Xi)); (case aL => have := LMc16.out; omega); intro v337 w17 ho hb hg hat; rw [← Ny336.out] at ho; replace HB := Aside0.mk (hb); have HO338 := Aside0.mk (ho); clear HO_5; clear ho hb hg hat))
  go_roundg k1
  case measure => have := HK1.out; omega
  case rel => exact ⟨(y336), (false), (wrap64 (x7_1 + 1)), Xr, Xr, H', Xk1, (Xp' HO338), ⟨Xi⟩⟩
 by_cases c18 : x6_1 = true
 ·subst c18
  try rw [if_pos rfl] at H
  obtain rfl := Option.some.inj H
  go_wp2
  go_ret
  exact ⟨_, Xe, Xq HO_5, Xi⟩
 replace c18 := Bool.eq_false_iff.mpr c18
 subst c18
 try rw [if_neg (show ¬ (false = true) by decide)] at H
 obtain ⟨c19, H⟩ | ⟨c19, H⟩ := Xiu H
 ·have LMc19 := Aside0.mk c19
  clear c19
  obtain ⟨y339, hy339⟩ : ∃ y_ : List Int, y_ = (x5_1 ++ [a1]) := ⟨_, rfl⟩
  replace H : (some y339) = some r := by first | (rw [hy339]; with_reducible exact H) | (have H2_ := (Option.bind_some _ _).symm.trans H; rw [hy339]; with_reducible exact H2_) | (have H2_ := (Option.bind_some _ _).symm.trans H; with_reducible exact H2_) | with_reducible exact H | (rw [hy339]; exact H) | exact H
  have Ny339 := Aside0.mk hy339
  clear hy339
  obtain rfl := Option.some.inj H
  go_wp2_with (first | ((with_reducible refine gate_builtin (b := .append) (xs := #[.tmp 38, .tmp 40]) rfl ?_); at_builtin; refine Kd.R_append (Kd.int .i64) (w0 := w) w.heap.size rfl (.tmp 38) (.tmp 40) 30 3 (.int .i64 0) 8 rfl Tryz.underlying30 info3 rfl (by decide) (by omega) u5 x5_1 a1 [.int .i64 a1] (fun _ => True) (fun _ => False) rfl rfl ?aP (fun _ hk => hk.elim) ?aF ?aO ?aB ?aS ?aL ?_; (case aP => exact rfl); (case aB => exact Xi); (case aF => exact (fun _ _ => trivial)); (case aO => exact (Xq HO_5)); (case aS => exact (below_size Xi)); (case aL => have := LMc19.out; omega); intro v340 w20 ho hb hg hat; rw [← Ny339.out] at ho; replace HB := Aside0.mk (hb); have HO341 := Aside0.mk (ho); clear HO_5; clear ho hb hg hat))
  go_ret
  exact ⟨_, Xe, Xq HO341, Xi⟩
 exact absurd H (by simp)
end Go.Proofs.YtahhgjkgfbppeaaGreat.XA
