/- Contracts of the program's functions: each Go function that is named below comes to what its Lean function says. Written by xprint.py (a program of this session's, over the kit's print). Conditions: each contract's own premises. -/
import Derived.Test.YtahhgjkgfbppeaaGreatYConflictsOf0
import Derived.Test.YtahhgjkgfbppeaaGreatYConflictsOf16
namespace Go.Proofs.YtahhgjkgfbppeaaGreat.XA
open Go.RowKit Go.Proofs.YtahhgjkgfbppeaaGreatW.PrintWords Go.Proofs.YtahhgjkgfbppeaaGreatW.PrintLast Go.Proofs.YtahhgjkgfbppeaaGreatW.PrintMore XW
attribute [local go_sem] max2_int min2_int max_two min_two max_three min_three max_four min_four   -- for this text's walks alone
set_option linter.unusedVariables false
set_option linter.unusedSimpArgs false

/-! ### impl_Doc_wanted: function 99 -/
def impl_Doc_wanted.f (k : Nat) (a0_0 : Int) (a0_1 : Int) (l0_2 : List (S113)) (l1 : List (S39)) (a2_0 : Int) (a2_1 : Int) (a2_2 : Int) (a3 : Int) : Option (Int) := (impl_Doc_mode.f k a0_0 a0_1 l0_2 l1 a2_0 a3).bind fun t435 => ((impl_Doc_need.f k a0_0 a0_1 l0_2 a2_0 a2_1 a2_2 a3).bind fun t436 => ((impl_joined.f t435 t436).bind fun t437 => (some t437)))
def impl_Doc_wanted.T1 : Bool × List (List Nat × List Nat) := (true, [([], []), ([], []), ([], []), ([2], [2]), ([], []), ([0, 1, 3, 4], [0, 1, 3, 4]), ([], []), ([], []), ([], []), ([6, 7, 8, 5], [6, 7, 8]), ([5, 9, 9], [5, 9]), ([10, 10, 0, 1, 2, 3, 4, 5, 6, 7, 8, 9, 10], [10])])
def impl_Doc_wanted.B1 : List Nat := [0, 0, 0, 4, 0, 31, 0, 0, 0, 511, 1023, 2047]
theorem impl_Doc_wanted.tab1 : rtab .any (opsOf Tryz.f99 1) = impl_Doc_wanted.T1 := by kernel_rfl
theorem impl_Doc_wanted.bits1 : waitsOk impl_Doc_wanted.T1.2 impl_Doc_wanted.B1 = true := by kernel_rfl
set_option maxHeartbeats 8000000 in
set_option maxRecDepth 100000 in
theorem impl_Doc_wanted.calls (k : Nat) (g0_ : Nat) (a0_0 : Int) (a0_1 : Int) (A0_2 : Option Addr) (c0_2 : Nat) (l0_2 : List (S113)) (A1 : Option Addr) (c1 : Nat) (l1 : List (S39)) (a2_0 : Int) (a2_1 : Int) (a2_2 : Int) (a3 : Int) (r : Int) (w : World) (hg0_ : w.heap[g0_]? = some (.cells #[.int .i64 a0_0, .int .i64 a0_1, .slice A0_2 l0_2.length c0_2] 35 (0, 0))) (hr0_2 : Kd.C k113 w A0_2 l0_2.length l0_2) (hc0_2 : l0_2.length ≤ c0_2) (hr1 : Kd.C k39 w A1 l1.length l1) (hc1 : l1.length ≤ c1) (h : impl_Doc_wanted.f k a0_0 a0_1 l0_2 l1 a2_0 a2_1 a2_2 a3 = some r) :
  Calls Tryz.prog 99 #[.pointer (some ⟨g0_, 0, none⟩), .slice A1 l1.length c1, .agg #[.int .i64 a2_0, .int .i64 a2_1, .int .i64 a2_2], .int .i64 a3] w fun e w' => e = .returned (.int .i64 r) ∧ Below w.heap.size w w' := by
 have hu39 := Tryz.underlying39
 have HR0_2 := Aside0.mk hr0_2
 have HC0_2 := Aside0.mk hc0_2
 clear hr0_2 hc0_2
 have HR1 := Aside0.mk hr1
 have HC1 := Aside0.mk hc1
 clear hr1 hc1
 have BK0 := Aside0.mk hg0_
 clear hg0_
 have HB := Aside0.mk (Below.refl w.heap.size w)
 have H : ((impl_Doc_mode.f k a0_0 a0_1 l0_2 l1 a2_0 a3).bind fun t435 => ((impl_Doc_need.f k a0_0 a0_1 l0_2 a2_0 a2_1 a2_2 a3).bind fun t436 => ((impl_joined.f t435 t436).bind fun t437 => (some t437)))) = some r := h
 clear h
 obtain ⟨t435, A5, H⟩ := Xbi H
 (try dsimp only at H)
 obtain ⟨t436, A6, H⟩ := Xbi H
 (try dsimp only at H)
 obtain ⟨t437, A7, H⟩ := Xbi H
 (try dsimp only at H)
 obtain rfl := Option.some.inj H
 go_enter Tryz.func99, Tryz.ntmps99
 try go_wp2_with (first | ((with_reducible refine gate_dst (N := 6) rfl ?_); refine Xbox 6 #[.int .i64 a2_0, .int .i64 a2_1, .int .i64 a2_2] 39 ?_; intro gb434 hg w8 hbox hb; have BK434 := Aside0.mk (hbox); have GE434 := Xge hg Xi; replace HB := Aside0.mk (below_step Xi hb); have NB0_434 := Xnb hg BK0; have NB434_0 := Xns NB0_434; replace BK0 := Xbb BK0 hb; clear hb hbox hg))
 replace BK0 := Aside0.mk (blk_drew BK0.out)
 replace BK434 := Aside0.mk (blk_drew BK434.out)
 replace HB := Aside0.mk (below_drew1 HB.out)
 refine start_ (n := 12) (S := fun w' => w'.cell? ⟨gb434, 0, none⟩ = some (.int .i64 a2_0) ∧ w'.cell? ⟨gb434, 1, none⟩ = some (.int .i64 a2_1) ∧ w'.cell? ⟨gb434, 2, none⟩ = some (.int .i64 a2_2)) (ds := []) #[false, false, false, false, false, false, false, false, false, false, false, false] (by kernel_rfl) rfl rfl ⟨(blk_cell BK434.out 0).trans rfl, (blk_cell BK434.out 1).trans rfl, (blk_cell BK434.out 2).trans rfl⟩ (fun hHeld => ?_); refine with_tabW impl_Doc_wanted.tab1 impl_Doc_wanted.bits1 (fun HT_ HW_ => ?_)
 generalize w8.drew = w9 at BK0 BK434 HB hHeld ⊢
 refine Xpu 0 9 (XW.bs 12 1) HT_.out ?_
 refine Xpu 1 10 (XW.bs 12 3) HT_.out ?_
 refine Xpu 2 11 (XW.bs 12 7) HT_.out ?_
 refine Xpu 4 13 (XW.bs 12 23) HT_.out ?_
 refine Xpu 6 15 (XW.bs 12 87) HT_.out ?_
 refine Xpu 8 17 (XW.bs 12 343) HT_.out ?_
 refine Xta 3 12 (XW.bs 12 351) HT_.out HW_.out hHeld ?_
 refine Xta 7 16 (XW.bs 12 479) HT_.out HW_.out hHeld ?_
 refine one_ (i := 5) (N := some 14) (XW.bs 12 511) rfl rfl (one_of HT_.out (by kernel_rfl)) (by decide) (fun K hK => ?_)
 refine goes_ Tryz.func76 (by kernel_rfl) rfl #[.pointer (some ⟨g0_, 0, none⟩), .slice A1 l1.length c1, .int .i64 a2_0, .int .i64 a3] (by rfl) rfl rfl (by (try simp only [List.map_toArray, List.map_cons, List.map_nil]); first | done | rfl | (simp only [List.length_drop, List.length_take]; rfl)) ?_
 with_reducible refine (impl_Doc_mode.calls k g0_ a0_0 a0_1 A0_2 c0_2 l0_2 _ _ l1 a2_0 a3 t435 _ ?side1 ?side2 ?side3 ?side4 ?side5 A5.out).mono ?_
 (case side1 => exact BK0.out)
 (case side2 => exact Xc HR0_2)
 (case side3 => exact HC0_2.out)
 (case side4 => exact Xc HR1)
 (case side5 => exact HC1.out)
 rintro e w10 ⟨rfl, hb⟩
 refine ⟨_, rfl, ?_⟩
 replace BK0 := Xbb BK0 hb
 replace BK434 := Xbb BK434 hb
 replace HB := Aside0.mk (below_step Xi hb)
 (try clear hb)
 (try clear hb2)
 (try clear hk)
 (try clear hi)
 refine hK.out _ _ ⟨(blk_cell BK434.out 0).trans rfl, (blk_cell BK434.out 1).trans rfl, (blk_cell BK434.out 2).trans rfl⟩ (fun hHeld => ?_)
 clear hK K
 refine Xno ?_
 refine one_ (i := 9) (N := some 18) (XW.bs 12 1023) rfl rfl (one_of HT_.out (by kernel_rfl)) (by decide) (fun K hK => ?_)
 refine goes_ Tryz.func132 (by kernel_rfl) rfl #[.pointer (some ⟨g0_, 0, none⟩), .agg #[.int .i64 a2_0, .int .i64 a2_1, .int .i64 a2_2], .int .i64 a3] (by rfl) rfl rfl (by (try simp only [List.map_toArray, List.map_cons, List.map_nil]); first | done | rfl | (simp only [List.length_drop, List.length_take]; rfl)) ?_
 with_reducible refine (impl_Doc_need.calls k g0_ a0_0 a0_1 A0_2 c0_2 l0_2 a2_0 a2_1 a2_2 a3 t436 _ ?side1 ?side2 ?side3 A6.out).mono ?_
 (case side1 => exact BK0.out)
 (case side2 => exact Xc HR0_2)
 (case side3 => exact HC0_2.out)
 rintro e w11 ⟨rfl, hb⟩
 refine ⟨_, rfl, ?_⟩
 replace BK0 := Xbb BK0 hb
 replace BK434 := Xbb BK434 hb
 replace HB := Aside0.mk (below_step Xi hb)
 (try clear hb)
 (try clear hb2)
 (try clear hk)
 (try clear hi)
 refine hK.out _ _ ⟨(blk_cell BK434.out 0).trans rfl, (blk_cell BK434.out 1).trans rfl, (blk_cell BK434.out 2).trans rfl⟩ (fun hHeld => ?_)
 clear hK K
 refine Xno ?_
 refine one_ (i := 10) (N := some 19) (XW.bs 12 2047) rfl rfl (one_of HT_.out (by kernel_rfl)) (by decide) (fun K hK => ?_)
 refine goes_ Tryz.func78 (by kernel_rfl) rfl #[.int .i64 t435, .int .i64 t436] (by rfl) rfl rfl (by (try simp only [List.map_toArray, List.map_cons, List.map_nil]); first | done | rfl | (simp only [List.length_drop, List.length_take]; rfl)) ?_
 with_reducible refine (impl_joined.calls t435 t436 t437 _ A7.out).mono ?_
 rintro e w12 ⟨rfl, hb⟩
 refine ⟨_, rfl, ?_⟩
 replace BK0 := Xbb BK0 hb
 replace BK434 := Xbb BK434 hb
 replace HB := Aside0.mk (below_step Xi hb)
 (try clear hb)
 (try clear hb2)
 (try clear hk)
 (try clear hi)
 refine hK.out _ _ ⟨(blk_cell BK434.out 0).trans rfl, (blk_cell BK434.out 1).trans rfl, (blk_cell BK434.out 2).trans rfl⟩ (fun hHeld => ?_)
 clear hK K
 refine Xno ?_
 refine Xpu 11 8 (XW.bs 12 4095) HT_.out ?_
 refine done_ (done_of HT_.out (by kernel_rfl)) ?_
 try go_wp2_with (fail)
 go_ret
 exact ⟨Xe, Xi⟩

/-! ### impl_compatible: function 98 -/
def impl_compatible.f (a0 : Int) (a1 : Int) : Option (Bool) := if (mn a0 a1) = 0 then (some true) else (if (mn a0 a1) = 1 then (some ((mx a0 a1) != 5)) else (if (mn a0 a1) = 2 then (some ((mx a0 a1) == 2)) else (if (mn a0 a1) = 3 then (some ((mx a0 a1) == 3)) else (some false))))
set_option maxHeartbeats 8000000 in
set_option maxRecDepth 100000 in
theorem impl_compatible.calls (a0 : Int) (a1 : Int) (r : Bool) (w : World) (h : impl_compatible.f a0 a1 = some r) :
  Calls Tryz.prog 98 #[.int .i64 a0, .int .i64 a1] w fun e w' => e = .returned (.bool r) ∧ Below w.heap.size w w' := by
 have HB := Aside0.mk (Below.refl w.heap.size w)
 have H : (if (mn a0 a1) = 0 then (some true) else (if (mn a0 a1) = 1 then (some ((mx a0 a1) != 5)) else (if (mn a0 a1) = 2 then (some ((mx a0 a1) == 2)) else (if (mn a0 a1) = 3 then (some ((mx a0 a1) == 3)) else (some false))))) = some r := h
 clear h
 obtain ⟨ji3, hji3⟩ : ∃ j_ : Int, (mn a0 a1) = j_ := ⟨_, rfl⟩
 replace H : (if (ji3) = 0 then (some true) else (if (ji3) = 1 then (some ((mx a0 a1) != 5)) else (if (ji3) = 2 then (some ((mx a0 a1) == 2)) else (if (ji3) = 3 then (some ((mx a0 a1) == 3)) else (some false))))) = some r := by first | (rw [hji3] at H; exact H) | (simp only [hji3] at H ⊢; exact H)
 have hji3_ : (if a1 < a0 then a1 else a0) = ji3 := hji3
 obtain ⟨ji4, hji4⟩ : ∃ j_ : Int, (mx a0 a1) = j_ := ⟨_, rfl⟩
 replace H : (if (ji3) = 0 then (some true) else (if (ji3) = 1 then (some ((ji4) != 5)) else (if (ji3) = 2 then (some ((ji4) == 2)) else (if (ji3) = 3 then (some ((ji4) == 3)) else (some false))))) = some r := by first | (rw [hji4] at H; exact H) | (simp only [hji4] at H ⊢; exact H)
 have hji4_ : (if a0 < a1 then a1 else a0) = ji4 := hji4
 obtain ⟨c5, H⟩ | ⟨c5, H⟩ := Xiu H
 ·have c5b0 : ((ji3) == 0) = true := beq_iff_eq.mpr c5
  have c5b1 : ((ji3) != 0) = false := bne_eq_false_iff_eq.mpr c5
  clear c5
  obtain rfl := Option.some.inj H
  go_enter Tryz.func98, Tryz.ntmps98
  go_wp2
  go_ret
  exact ⟨by first | rfl | (simp [errW_none, errW_some] <;> rfl) | (simp only [← hji3, ← hji4]; first | rfl | (simp [errW_none, errW_some] <;> rfl)) | (simp [*, errW_none, errW_some] <;> rfl), Xi⟩
 ·have c5b0 : ((ji3) == 0) = false := beq_eq_false_iff_ne.mpr c5
  have c5b1 : ((ji3) != 0) = true := bne_iff_ne.mpr c5
  obtain ⟨c6, H⟩ | ⟨c6, H⟩ := Xiu H
  ·have c6b0 : ((ji3) == 1) = true := beq_iff_eq.mpr c6
   have c6b1 : ((ji3) != 1) = false := bne_eq_false_iff_eq.mpr c6
   clear c6
   obtain rfl := Option.some.inj H
   go_enter Tryz.func98, Tryz.ntmps98
   go_wp2
   go_ret
   exact ⟨by first | rfl | (simp [errW_none, errW_some] <;> rfl) | (simp only [← hji3, ← hji4]; first | rfl | (simp [errW_none, errW_some] <;> rfl)) | (simp [*, errW_none, errW_some] <;> rfl), Xi⟩
  ·have c6b0 : ((ji3) == 1) = false := beq_eq_false_iff_ne.mpr c6
   have c6b1 : ((ji3) != 1) = true := bne_iff_ne.mpr c6
   obtain ⟨c7, H⟩ | ⟨c7, H⟩ := Xiu H
   ·have c7b0 : ((ji3) == 2) = true := beq_iff_eq.mpr c7
    have c7b1 : ((ji3) != 2) = false := bne_eq_false_iff_eq.mpr c7
    clear c7
    obtain rfl := Option.some.inj H
    go_enter Tryz.func98, Tryz.ntmps98
    go_wp2
    go_ret
    exact ⟨by first | rfl | (simp [errW_none, errW_some] <;> rfl) | (simp only [← hji3, ← hji4]; first | rfl | (simp [errW_none, errW_some] <;> rfl)) | (simp [*, errW_none, errW_some] <;> rfl), Xi⟩
   ·have c7b0 : ((ji3) == 2) = false := beq_eq_false_iff_ne.mpr c7
    have c7b1 : ((ji3) != 2) = true := bne_iff_ne.mpr c7
    obtain ⟨c8, H⟩ | ⟨c8, H⟩ := Xiu H
    ·have c8b0 : ((ji3) == 3) = true := beq_iff_eq.mpr c8
     have c8b1 : ((ji3) != 3) = false := bne_eq_false_iff_eq.mpr c8
     clear c8
     obtain rfl := Option.some.inj H
     go_enter Tryz.func98, Tryz.ntmps98
     go_wp2
     go_ret
     exact ⟨by first | rfl | (simp [errW_none, errW_some] <;> rfl) | (simp only [← hji3, ← hji4]; first | rfl | (simp [errW_none, errW_some] <;> rfl)) | (simp [*, errW_none, errW_some] <;> rfl), Xi⟩
    ·have c8b0 : ((ji3) == 3) = false := beq_eq_false_iff_ne.mpr c8
     have c8b1 : ((ji3) != 3) = true := bne_iff_ne.mpr c8
     obtain rfl := Option.some.inj H
     go_enter Tryz.func98, Tryz.ntmps98
     go_wp2
     go_ret
     exact ⟨by first | rfl | (simp [errW_none, errW_some] <;> rfl) | (simp only [← hji3, ← hji4]; first | rfl | (simp [errW_none, errW_some] <;> rfl)) | (simp [*, errW_none, errW_some] <;> rfl), Xi⟩

/-! ### impl_Doc_conflicts_1_1: function 97 -/
def impl_Doc_conflicts_1_1.f (k : Nat) (a0 : Int) (a1_0 : Int) (a1_1 : Int) (l1_2 : List (S113)) (l2_0 : List (S39)) (a3_0 : Int) (a4_0 : Int) (a4_1 : Int) (a4_2 : Int) : Option (Bool) := (impl_Doc_mode.f k a1_0 a1_1 l1_2 l2_0 a3_0 a0).bind fun t440 => ((impl_Doc_wanted.f k a1_0 a1_1 l1_2 l2_0 a4_0 a4_1 a4_2 a0).bind fun t441 => ((impl_compatible.f t440 t441).bind fun t442 => (some (!t442))))
def impl_Doc_conflicts_1_1.T1 : Bool × List (List Nat × List Nat) := (true, [([], []), ([], []), ([], []), ([], []), ([0, 1, 2, 3], [0, 1, 2, 3]), ([], []), ([], []), ([], []), ([], []), ([5, 6, 7, 8, 4], [5, 6, 7, 8]), ([4, 9, 9], [4, 9]), ([10], [10]), ([11, 10, 0, 1, 2, 3, 4, 5, 6, 7, 8, 9, 10, 11], [11])])
def impl_Doc_conflicts_1_1.B1 : List Nat := [0, 0, 0, 0, 15, 0, 0, 0, 0, 511, 1023, 2047, 4095]
theorem impl_Doc_conflicts_1_1.tab1 : rtab .any (opsOf Tryz.f97 1) = impl_Doc_conflicts_1_1.T1 := by kernel_rfl
theorem impl_Doc_conflicts_1_1.bits1 : waitsOk impl_Doc_conflicts_1_1.T1.2 impl_Doc_conflicts_1_1.B1 = true := by kernel_rfl
set_option maxHeartbeats 8000000 in
set_option maxRecDepth 100000 in
theorem impl_Doc_conflicts_1_1.calls (k : Nat) (a0 : Int) (g1_ : Nat) (q1_ : Nat) (a1_0 : Int) (a1_1 : Int) (A1_2 : Option Addr) (c1_2 : Nat) (l1_2 : List (S113)) (g2_ : Nat) (A2_0 : Option Addr) (c2_0 : Nat) (l2_0 : List (S39)) (g3_ : Nat) (a3_0 : Int) (g4_ : Nat) (a4_0 : Int) (a4_1 : Int) (a4_2 : Int) (r : Bool) (w : World) (hq1_ : w.heap[q1_]? = some (.cells #[.int .i64 a1_0, .int .i64 a1_1, .slice A1_2 l1_2.length c1_2] 35 (0, 0))) (hg1_ : w.heap[g1_]? = some (.cells #[.pointer (some ⟨q1_, 0, none⟩)] 115 (0, 0))) (hr1_2 : Kd.C k113 w A1_2 l1_2.length l1_2) (hc1_2 : l1_2.length ≤ c1_2) (hg2_ : w.heap[g2_]? = some (.cells #[.slice A2_0 l2_0.length c2_0] 37 (0, 0))) (hr2_0 : Kd.C k39 w A2_0 l2_0.length l2_0) (hc2_0 : l2_0.length ≤ c2_0) (hg3_ : w.heap[g3_]? = some (.cells #[.int .i64 a3_0] 3 (0, 0))) (hg4_ : w.heap[g4_]? = some (.cells #[.int .i64 a4_0, .int .i64 a4_1, .int .i64 a4_2] 39 (0, 0))) (h : impl_Doc_conflicts_1_1.f k a0 a1_0 a1_1 l1_2 l2_0 a3_0 a4_0 a4_1 a4_2 = some r) :
  Calls Tryz.prog 97 #[.int .i64 a0, .pointer (some ⟨g1_, 0, none⟩), .pointer (some ⟨g2_, 0, none⟩), .pointer (some ⟨g3_, 0, none⟩), .pointer (some ⟨g4_, 0, none⟩)] w fun e w' => e = .returned (.bool r) ∧ Below w.heap.size w w' := by
 have hu39 := Tryz.underlying39
 have HR1_2 := Aside0.mk hr1_2
 have HC1_2 := Aside0.mk hc1_2
 clear hr1_2 hc1_2
 have HR2_0 := Aside0.mk hr2_0
 have HC2_0 := Aside0.mk hc2_0
 clear hr2_0 hc2_0
 have BK81 := Aside0.mk hq1_
 clear hq1_
 have BK1 := Aside0.mk hg1_
 clear hg1_
 have BK2 := Aside0.mk hg2_
 clear hg2_
 have BK3 := Aside0.mk hg3_
 clear hg3_
 have BK4 := Aside0.mk hg4_
 clear hg4_
 have HB := Aside0.mk (Below.refl w.heap.size w)
 have H : ((impl_Doc_mode.f k a1_0 a1_1 l1_2 l2_0 a3_0 a0).bind fun t440 => ((impl_Doc_wanted.f k a1_0 a1_1 l1_2 l2_0 a4_0 a4_1 a4_2 a0).bind fun t441 => ((impl_compatible.f t440 t441).bind fun t442 => (some (!t442))))) = some r := h
 clear h
 obtain ⟨t440, A6, H⟩ := Xbi H
 (try dsimp only at H)
 obtain ⟨t441, A7, H⟩ := Xbi H
 (try dsimp only at H)
 obtain ⟨t442, A8, H⟩ := Xbi H
 (try dsimp only at H)
 obtain rfl := Option.some.inj H
 go_enter Tryz.func97, Tryz.ntmps97
 try go_wp2_with (fail)
 replace BK81 := Aside0.mk (blk_drew BK81.out)
 replace BK1 := Aside0.mk (blk_drew BK1.out)
 replace BK2 := Aside0.mk (blk_drew BK2.out)
 replace BK3 := Aside0.mk (blk_drew BK3.out)
 replace BK4 := Aside0.mk (blk_drew BK4.out)
 replace HB := Aside0.mk (below_drew1 HB.out)
 refine start_ (n := 13) (S := fun w' => w'.cell? ⟨g1_, 0, none⟩ = some (.pointer (some ⟨q1_, 0, none⟩)) ∧ w'.cell? ⟨g2_, 0, none⟩ = some (.slice A2_0 l2_0.length c2_0) ∧ w'.cell? ⟨g3_, 0, none⟩ = some (.int .i64 a3_0) ∧ w'.cell? ⟨g4_, 0, none⟩ = some (.int .i64 a4_0) ∧ w'.cell? ⟨g4_, 1, none⟩ = some (.int .i64 a4_1) ∧ w'.cell? ⟨g4_, 2, none⟩ = some (.int .i64 a4_2)) (ds := []) #[false, false, false, false, false, false, false, false, false, false, false, false, false] (by kernel_rfl) rfl rfl ⟨(blk_cell BK1.out 0).trans rfl, (blk_cell BK2.out 0).trans rfl, (blk_cell BK3.out 0).trans rfl, (blk_cell BK4.out 0).trans rfl, (blk_cell BK4.out 1).trans rfl, (blk_cell BK4.out 2).trans rfl⟩ (fun hHeld => ?_); refine with_tabW impl_Doc_conflicts_1_1.tab1 impl_Doc_conflicts_1_1.bits1 (fun HT_ HW_ => ?_)
 generalize w.drew = w9 at BK81 BK1 BK2 BK3 BK4 HB hHeld ⊢
 refine Xpu 3 10 (XW.bs 13 8) HT_.out ?_
 refine Xpu 8 15 (XW.bs 13 264) HT_.out ?_
 refine Xta 0 7 (XW.bs 13 265) HT_.out HW_.out hHeld ?_
 refine Xta 1 8 (XW.bs 13 267) HT_.out HW_.out hHeld ?_
 refine Xta 2 9 (XW.bs 13 271) HT_.out HW_.out hHeld ?_
 refine Xta 5 12 (XW.bs 13 303) HT_.out HW_.out hHeld ?_
 refine Xta 6 13 (XW.bs 13 367) HT_.out HW_.out hHeld ?_
 refine Xta 7 14 (XW.bs 13 495) HT_.out HW_.out hHeld ?_
 refine one_ (i := 4) (N := some 11) (XW.bs 13 511) rfl rfl (one_of HT_.out (by kernel_rfl)) (by decide) (fun K hK => ?_)
 refine goes_ Tryz.func76 (by kernel_rfl) rfl #[.pointer (some ⟨q1_, 0, none⟩), .slice A2_0 l2_0.length c2_0, .int .i64 a3_0, .int .i64 a0] (by rfl) rfl rfl (by (try simp only [List.map_toArray, List.map_cons, List.map_nil]); first | done | rfl | (simp only [List.length_drop, List.length_take]; rfl)) ?_
 with_reducible refine (impl_Doc_mode.calls k q1_ a1_0 a1_1 A1_2 c1_2 l1_2 _ _ l2_0 a3_0 a0 t440 _ ?side1 ?side2 ?side3 ?side4 ?side5 A6.out).mono ?_
 (case side1 => exact BK81.out)
 (case side2 => exact Xc HR1_2)
 (case side3 => exact HC1_2.out)
 (case side4 => exact Xc HR2_0)
 (case side5 => exact HC2_0.out)
 rintro e w10 ⟨rfl, hb⟩
 refine ⟨_, rfl, ?_⟩
 replace BK81 := Xbb BK81 hb
 replace BK1 := Xbb BK1 hb
 replace BK2 := Xbb BK2 hb
 replace BK3 := Xbb BK3 hb
 replace BK4 := Xbb BK4 hb
 replace HB := Aside0.mk (below_step Xi hb)
 (try clear hb)
 (try clear hb2)
 (try clear hk)
 (try clear hi)
 refine hK.out _ _ ⟨(blk_cell BK1.out 0).trans rfl, (blk_cell BK2.out 0).trans rfl, (blk_cell BK3.out 0).trans rfl, (blk_cell BK4.out 0).trans rfl, (blk_cell BK4.out 1).trans rfl, (blk_cell BK4.out 2).trans rfl⟩ (fun hHeld => ?_)
 clear hK K
 refine Xno ?_
 refine one_ (i := 9) (N := some 16) (XW.bs 13 1023) rfl rfl (one_of HT_.out (by kernel_rfl)) (by decide) (fun K hK => ?_)
 refine goes_ Tryz.func99 (by kernel_rfl) rfl #[.pointer (some ⟨q1_, 0, none⟩), .slice A2_0 l2_0.length c2_0, .agg #[.int .i64 a4_0, .int .i64 a4_1, .int .i64 a4_2], .int .i64 a0] (by rfl) rfl rfl (by (try simp only [List.map_toArray, List.map_cons, List.map_nil]); first | done | rfl | (simp only [List.length_drop, List.length_take]; rfl)) ?_
 with_reducible refine (impl_Doc_wanted.calls k q1_ a1_0 a1_1 A1_2 c1_2 l1_2 _ _ l2_0 a4_0 a4_1 a4_2 a0 t441 _ ?side1 ?side2 ?side3 ?side4 ?side5 A7.out).mono ?_
 (case side1 => exact BK81.out)
 (case side2 => exact Xc HR1_2)
 (case side3 => exact HC1_2.out)
 (case side4 => exact Xc HR2_0)
 (case side5 => exact HC2_0.out)
 rintro e w11 ⟨rfl, hb⟩
 refine ⟨_, rfl, ?_⟩
 replace BK81 := Xbb BK81 hb
 replace BK1 := Xbb BK1 hb
 replace BK2 := Xbb BK2 hb
 replace BK3 := Xbb BK3 hb
 replace BK4 := Xbb BK4 hb
 replace HB := Aside0.mk (below_step Xi hb)
 (try clear hb)
 (try clear hb2)
 (try clear hk)
 (try clear hi)
 refine hK.out _ _ ⟨(blk_cell BK1.out 0).trans rfl, (blk_cell BK2.out 0).trans rfl, (blk_cell BK3.out 0).trans rfl, (blk_cell BK4.out 0).trans rfl, (blk_cell BK4.out 1).trans rfl, (blk_cell BK4.out 2).trans rfl⟩ (fun hHeld => ?_)
 clear hK K
 refine Xno ?_
 refine one_ (i := 10) (N := some 17) (XW.bs 13 2047) rfl rfl (one_of HT_.out (by kernel_rfl)) (by decide) (fun K hK => ?_)
 refine goes_ Tryz.func98 (by kernel_rfl) rfl #[.int .i64 t440, .int .i64 t441] (by rfl) rfl rfl (by (try simp only [List.map_toArray, List.map_cons, List.map_nil]); first | done | rfl | (simp only [List.length_drop, List.length_take]; rfl)) ?_
 with_reducible refine (impl_compatible.calls t440 t441 t442 _ A8.out).mono ?_
 rintro e w12 ⟨rfl, hb⟩
 refine ⟨_, rfl, ?_⟩
 replace BK81 := Xbb BK81 hb
 replace BK1 := Xbb BK1 hb
 replace BK2 := Xbb BK2 hb
 replace BK3 := Xbb BK3 hb
 replace BK4 := Xbb BK4 hb
 replace HB := Aside0.mk (below_step Xi hb)
 (try clear hb)
 (try clear hb2)
 (try clear hk)
 (try clear hi)
 refine hK.out _ _ ⟨(blk_cell BK1.out 0).trans rfl, (blk_cell BK2.out 0).trans rfl, (blk_cell BK3.out 0).trans rfl, (blk_cell BK4.out 0).trans rfl, (blk_cell BK4.out 1).trans rfl, (blk_cell BK4.out 2).trans rfl⟩ (fun hHeld => ?_)
 clear hK K
 refine Xno ?_
 refine Xpu 11 18 (XW.bs 13 4095) HT_.out ?_
 refine Xpu 12 6 (XW.bs 13 8191) HT_.out ?_
 refine done_ (done_of HT_.out (by kernel_rfl)) ?_
 try go_wp2_with (fail)
 go_ret
 exact ⟨Xe, Xi⟩

/-! ### slices_IndexFunc_int_int_at_impl_Doc_conflicts_1_1: function 148 -/
def slices_IndexFunc_int_int_at_impl_Doc_conflicts_1_1.l0 : Nat → List Int → Int → Int → List (S39) → Int → Int → Int → Int → Int → Int → List (S113) → Option (Int)
 | 0, _, _, _, _, _, _, _, _, _, _, _ => none
 | k + 1, x0, x7, x8, x27000, x28000, x29000, x29001, x29002, x56000, x56001, x56002 => if x8 < x7 then (if 0 ≤ x8 then (if x8 < (x0.length : Int) then ((impl_Doc_conflicts_1_1.f k (rd x0 x8) x56000 x56001 x56002 x27000 x28000 x29000 x29001 x29002).bind fun t444 => (if t444 = true then (some x8) else (slices_IndexFunc_int_int_at_impl_Doc_conflicts_1_1.l0 k x0 x7 (wrap64 (x8 + 1)) x27000 x28000 x29000 x29001 x29002 x56000 x56001 x56002))) else (none)) else (none)) else (some (-1))
def slices_IndexFunc_int_int_at_impl_Doc_conflicts_1_1.f (k : Nat) (l0 : List Int) (a1_0_0 : Int) (a1_0_1 : Int) (l1_0_2 : List (S113)) (l1_1_0 : List (S39)) (a1_2_0 : Int) (a1_3_0 : Int) (a1_3_1 : Int) (a1_3_2 : Int) : Option (Int) := slices_IndexFunc_int_int_at_impl_Doc_conflicts_1_1.l0 k l0 (l0.length : Int) 0 l1_1_0 a1_2_0 a1_3_0 a1_3_1 a1_3_2 a1_0_0 a1_0_1 l1_0_2
set_option maxHeartbeats 8000000 in
set_option maxRecDepth 100000 in
theorem slices_IndexFunc_int_int_at_impl_Doc_conflicts_1_1.calls (k : Nat) (A0 : Option Addr) (c0 : Nat) (l0 : List Int) (g1_0_ : Nat) (q1_0_ : Nat) (g1_1_ : Nat) (g1_2_ : Nat) (g1_3_ : Nat) (a1_0_0 : Int) (a1_0_1 : Int) (A1_0_2 : Option Addr) (c1_0_2 : Nat) (l1_0_2 : List (S113)) (A1_1_0 : Option Addr) (c1_1_0 : Nat) (l1_1_0 : List (S39)) (a1_2_0 : Int) (a1_3_0 : Int) (a1_3_1 : Int) (a1_3_2 : Int) (r : Int) (w : World) (hr0 : Kd.C (Kd.int .i64) w A0 l0.length l0) (hc0 : l0.length ≤ c0) (hq1_0_ : w.heap[q1_0_]? = some (.cells #[.int .i64 a1_0_0, .int .i64 a1_0_1, .slice A1_0_2 l1_0_2.length c1_0_2] 35 (0, 0))) (hg1_0_ : w.heap[g1_0_]? = some (.cells #[.pointer (some ⟨q1_0_, 0, none⟩)] 115 (0, 0))) (hg1_1_ : w.heap[g1_1_]? = some (.cells #[.slice A1_1_0 l1_1_0.length c1_1_0] 37 (0, 0))) (hg1_2_ : w.heap[g1_2_]? = some (.cells #[.int .i64 a1_2_0] 3 (0, 0))) (hg1_3_ : w.heap[g1_3_]? = some (.cells #[.int .i64 a1_3_0, .int .i64 a1_3_1, .int .i64 a1_3_2] 39 (0, 0))) (hr1_0_2 : Kd.C k113 w A1_0_2 l1_0_2.length l1_0_2) (hc1_0_2 : l1_0_2.length ≤ c1_0_2) (hr1_1_0 : Kd.C k39 w A1_1_0 l1_1_0.length l1_1_0) (hc1_1_0 : l1_1_0.length ≤ c1_1_0) (h : slices_IndexFunc_int_int_at_impl_Doc_conflicts_1_1.f k l0 a1_0_0 a1_0_1 l1_0_2 l1_1_0 a1_2_0 a1_3_0 a1_3_1 a1_3_2 = some r) :
  Calls Tryz.prog 148 #[.slice A0 l0.length c0, .func (.func 97) #[] #[.pointer (some ⟨g1_0_, 0, none⟩), .pointer (some ⟨g1_1_, 0, none⟩), .pointer (some ⟨g1_2_, 0, none⟩), .pointer (some ⟨g1_3_, 0, none⟩)]] w fun e w' => e = .returned (.int .i64 r) ∧ Below w.heap.size w w' := by
 have HR0 := Aside0.mk hr0
 have HC0 := Aside0.mk hc0
 clear hr0 hc0
 have HR1_0_2 := Aside0.mk hr1_0_2
 have HC1_0_2 := Aside0.mk hc1_0_2
 clear hr1_0_2 hc1_0_2
 have HR1_1_0 := Aside0.mk hr1_1_0
 have HC1_1_0 := Aside0.mk hc1_1_0
 clear hr1_1_0 hc1_1_0
 have BK55 := Aside0.mk hq1_0_
 clear hq1_0_
 have BK25 := Aside0.mk hg1_0_
 clear hg1_0_
 have BK26 := Aside0.mk hg1_1_
 clear hg1_1_
 have BK27 := Aside0.mk hg1_2_
 clear hg1_2_
 have BK28 := Aside0.mk hg1_3_
 clear hg1_3_
 have HB := Aside0.mk (Below.refl w.heap.size w)
 have H : (slices_IndexFunc_int_int_at_impl_Doc_conflicts_1_1.l0 k l0 (l0.length : Int) 0 l1_1_0 a1_2_0 a1_3_0 a1_3_1 a1_3_2 a1_0_0 a1_0_1 l1_0_2) = some r := h
 clear h
 have H' := Aside0.mk H
 clear H
 go_enter Tryz.func148, Tryz.ntmps148
 go_wp2
 go_loopg [8] k (fun kq v8 w' => ∃ (x8_1 : Int), v8 = .int .i64 x8_1 ∧ Aside0 (slices_IndexFunc_int_int_at_impl_Doc_conflicts_1_1.l0 kq l0 (l0.length : Int) x8_1 l1_1_0 a1_2_0 a1_3_0 a1_3_1 a1_3_2 a1_0_0 a1_0_1 l1_0_2 = some r) ∧ Aside0 (kq ≤ k) ∧ Aside0 (w'.heap[q1_0_]? = some (.cells #[.int .i64 a1_0_0, .int .i64 a1_0_1, (.slice A1_0_2 l1_0_2.length c1_0_2)] 35 (0, 0))) ∧ Aside0 (w'.heap[g1_0_]? = some (.cells #[.pointer (some ⟨q1_0_, 0, none⟩)] 115 (0, 0))) ∧ Aside0 (w'.heap[g1_1_]? = some (.cells #[(.slice A1_1_0 l1_1_0.length c1_1_0)] 37 (0, 0))) ∧ Aside0 (w'.heap[g1_2_]? = some (.cells #[.int .i64 a1_2_0] 3 (0, 0))) ∧ Aside0 (w'.heap[g1_3_]? = some (.cells #[.int .i64 a1_3_0, .int .i64 a1_3_1, .int .i64 a1_3_2] 39 (0, 0))) ∧ Aside0 (Below w.heap.size w w'))
 case atStart => exact ⟨(0), Xr, H', Xkr, BK55, BK25, BK26, BK27, BK28, ⟨Xi⟩⟩
 case round =>
  clear H'
  obtain ⟨x8_1, rfl, HA, HK1, BK55, BK25, BK26, BK27, BK28, HB⟩ := hrel
  cases gk with
  | zero => cases HA.out
  | succ k1 =>
   have H := HA.out
   clear HA
   simp only [slices_IndexFunc_int_int_at_impl_Doc_conflicts_1_1.l0] at H
   obtain ⟨c3b0, H⟩ | ⟨c3b0, H⟩ := Xit H
   ·obtain ⟨c4b0, H⟩ := Xid H
    obtain ⟨c5b0, H⟩ := Xid H
    obtain ⟨t444, A6, H⟩ := Xbi H
    (try dsimp only at H)
    have HC7 := Aside0.mk H
    clear H
    have p443 : 0 ≤ (x8_1 : Int) := of_decide_eq_true Xa
    have q443 : x8_1 < (l0.length : Int) := of_decide_eq_true Xa
    obtain ⟨ad443, e443, hx443_0⟩ := Kd.at_int HR0.out x8_1 p443 q443
    cases e443
    replace hx443_0 := Xm HB hx443_0
    replace p443 := eq_true p443
    replace q443 := eq_true q443
    go_upto_if 16 with (first | (go_at_call 97; (with_reducible refine (impl_Doc_conflicts_1_1.calls k1 (rd l0 x8_1) g1_0_ q1_0_ a1_0_0 a1_0_1 A1_0_2 c1_0_2 l1_0_2 g1_1_ A1_1_0 c1_1_0 l1_1_0 g1_2_ a1_2_0 g1_3_ a1_3_0 a1_3_1 a1_3_2 t444 _ ?side1 ?side2 ?side3 ?side4 ?side5 ?side6 ?side7 ?side8 ?side9 A6.out).mono ?_); (case side1 => exact BK55.out); (case side2 => exact BK25.out); (case side3 => exact Xc HR1_0_2); (case side4 => exact HC1_0_2.out); (case side5 => exact BK26.out); (case side6 => exact Xc HR1_1_0); (case side7 => exact HC1_1_0.out); (case side8 => exact BK27.out); (case side9 => exact BK28.out); rintro e w8 ⟨rfl, hb⟩; replace BK55 := Xbb BK55 hb; replace BK25 := Xbb BK25 hb; replace BK26 := Xbb BK26 hb; replace BK27 := Xbb BK27 hb; replace BK28 := Xbb BK28 hb; replace HB := Aside0.mk (below_step Xi hb); clear hb))
    have H := HC7.out
    clear HC7
    by_cases c9 : t444 = true
    ·subst c9
     (first | rw [if_pos rfl] at H | skip)
     obtain rfl := Option.some.inj H
     go_wp2
     go_ret
     exact ⟨Xe, Xi⟩
    ·replace c9 := Bool.eq_false_iff.mpr c9
     subst c9
     (first | rw [if_neg (show ¬ (false = true) by decide)] at H | skip)
     have H' := Aside0.mk H
     clear H
     go_wp2
     go_roundg k1
     case measure => have := HK1.out; omega
     case rel => exact ⟨(wrap64 (x8_1 + 1)), Xr, H', Xk1, BK55, BK25, BK26, BK27, BK28, ⟨Xi⟩⟩
   ·obtain rfl := Option.some.inj H
    go_wp2
    go_ret
    exact ⟨Xe, Xi⟩

/-! ### slices_ContainsFunc_int_int_at_impl_Doc_conflicts_1_1: function 96 -/
def slices_ContainsFunc_int_int_at_impl_Doc_conflicts_1_1.f (k : Nat) (l0 : List Int) (a1_0_0 : Int) (a1_0_1 : Int) (l1_0_2 : List (S113)) (l1_1_0 : List (S39)) (a1_2_0 : Int) (a1_3_0 : Int) (a1_3_1 : Int) (a1_3_2 : Int) : Option (Bool) := (slices_IndexFunc_int_int_at_impl_Doc_conflicts_1_1.f k l0 a1_0_0 a1_0_1 l1_0_2 l1_1_0 a1_2_0 a1_3_0 a1_3_1 a1_3_2).bind fun t445 => (some (decide (t445 ≥ 0)))
set_option maxHeartbeats 8000000 in
set_option maxRecDepth 100000 in
theorem slices_ContainsFunc_int_int_at_impl_Doc_conflicts_1_1.calls (k : Nat) (A0 : Option Addr) (c0 : Nat) (l0 : List Int) (g1_0_ : Nat) (q1_0_ : Nat) (g1_1_ : Nat) (g1_2_ : Nat) (g1_3_ : Nat) (a1_0_0 : Int) (a1_0_1 : Int) (A1_0_2 : Option Addr) (c1_0_2 : Nat) (l1_0_2 : List (S113)) (A1_1_0 : Option Addr) (c1_1_0 : Nat) (l1_1_0 : List (S39)) (a1_2_0 : Int) (a1_3_0 : Int) (a1_3_1 : Int) (a1_3_2 : Int) (r : Bool) (w : World) (hr0 : Kd.C (Kd.int .i64) w A0 l0.length l0) (hc0 : l0.length ≤ c0) (hq1_0_ : w.heap[q1_0_]? = some (.cells #[.int .i64 a1_0_0, .int .i64 a1_0_1, .slice A1_0_2 l1_0_2.length c1_0_2] 35 (0, 0))) (hg1_0_ : w.heap[g1_0_]? = some (.cells #[.pointer (some ⟨q1_0_, 0, none⟩)] 115 (0, 0))) (hg1_1_ : w.heap[g1_1_]? = some (.cells #[.slice A1_1_0 l1_1_0.length c1_1_0] 37 (0, 0))) (hg1_2_ : w.heap[g1_2_]? = some (.cells #[.int .i64 a1_2_0] 3 (0, 0))) (hg1_3_ : w.heap[g1_3_]? = some (.cells #[.int .i64 a1_3_0, .int .i64 a1_3_1, .int .i64 a1_3_2] 39 (0, 0))) (hr1_0_2 : Kd.C k113 w A1_0_2 l1_0_2.length l1_0_2) (hc1_0_2 : l1_0_2.length ≤ c1_0_2) (hr1_1_0 : Kd.C k39 w A1_1_0 l1_1_0.length l1_1_0) (hc1_1_0 : l1_1_0.length ≤ c1_1_0) (h : slices_ContainsFunc_int_int_at_impl_Doc_conflicts_1_1.f k l0 a1_0_0 a1_0_1 l1_0_2 l1_1_0 a1_2_0 a1_3_0 a1_3_1 a1_3_2 = some r) :
  Calls Tryz.prog 96 #[.slice A0 l0.length c0, .func (.func 97) #[] #[.pointer (some ⟨g1_0_, 0, none⟩), .pointer (some ⟨g1_1_, 0, none⟩), .pointer (some ⟨g1_2_, 0, none⟩), .pointer (some ⟨g1_3_, 0, none⟩)]] w fun e w' => e = .returned (.bool r) ∧ Below w.heap.size w w' := by
 have HR0 := Aside0.mk hr0
 have HC0 := Aside0.mk hc0
 clear hr0 hc0
 have HR1_0_2 := Aside0.mk hr1_0_2
 have HC1_0_2 := Aside0.mk hc1_0_2
 clear hr1_0_2 hc1_0_2
 have HR1_1_0 := Aside0.mk hr1_1_0
 have HC1_1_0 := Aside0.mk hc1_1_0
 clear hr1_1_0 hc1_1_0
 have BK55 := Aside0.mk hq1_0_
 clear hq1_0_
 have BK25 := Aside0.mk hg1_0_
 clear hg1_0_
 have BK26 := Aside0.mk hg1_1_
 clear hg1_1_
 have BK27 := Aside0.mk hg1_2_
 clear hg1_2_
 have BK28 := Aside0.mk hg1_3_
 clear hg1_3_
 have HB := Aside0.mk (Below.refl w.heap.size w)
 have H : ((slices_IndexFunc_int_int_at_impl_Doc_conflicts_1_1.f k l0 a1_0_0 a1_0_1 l1_0_2 l1_1_0 a1_2_0 a1_3_0 a1_3_1 a1_3_2).bind fun t445 => (some (decide (t445 ≥ 0)))) = some r := h
 clear h
 obtain ⟨t445, A3, H⟩ := Xbi H
 (try dsimp only at H)
 obtain rfl := Option.some.inj H
 go_enter Tryz.func96, Tryz.ntmps96
 go_wp2_with (first | ((with_reducible refine gate_callee (f := 148) rfl ?_); refine Xgo 7 Tryz.func148 #[.slice A0 l0.length c0, .func (.func 97) #[] #[.pointer (some ⟨g1_0_, 0, none⟩), .pointer (some ⟨g1_1_, 0, none⟩), .pointer (some ⟨g1_2_, 0, none⟩), .pointer (some ⟨g1_3_, 0, none⟩)]] ?_; (with_reducible refine (slices_IndexFunc_int_int_at_impl_Doc_conflicts_1_1.calls k _ _ l0 g1_0_ q1_0_ g1_1_ g1_2_ g1_3_ a1_0_0 a1_0_1 A1_0_2 c1_0_2 l1_0_2 A1_1_0 c1_1_0 l1_1_0 a1_2_0 a1_3_0 a1_3_1 a1_3_2 t445 _ ?side1 ?side2 ?side3 ?side4 ?side5 ?side6 ?side7 ?side8 ?side9 ?side10 ?side11 A3.out).mono ?_); (case side1 => repeat (first | exact HR0.out | (with_reducible first | refine Kd.C_alloc ?_ _ | refine Kd.C_drewN ?_ _ | refine Kd.C_drew ?_))); (case side2 => exact HC0.out); (case side3 => exact BK55.out); (case side4 => exact BK25.out); (case side5 => exact BK26.out); (case side6 => exact BK27.out); (case side7 => exact BK28.out); (case side8 => repeat (first | exact HR1_0_2.out | (with_reducible first | refine Kd.C_alloc ?_ _ | refine Kd.C_drewN ?_ _ | refine Kd.C_drew ?_))); (case side9 => exact HC1_0_2.out); (case side10 => repeat (first | exact HR1_1_0.out | (with_reducible first | refine Kd.C_alloc ?_ _ | refine Kd.C_drewN ?_ _ | refine Kd.C_drew ?_))); (case side11 => exact HC1_1_0.out); rintro e w4 ⟨rfl, hb⟩; refine ⟨_, rfl, ?_⟩; replace BK55 := Xbb BK55 hb; replace BK25 := Xbb BK25 hb; replace BK26 := Xbb BK26 hb; replace BK27 := Xbb BK27 hb; replace BK28 := Xbb BK28 hb; replace HB := Aside0.mk (below_step Xi hb); clear hb))
 go_ret
 exact ⟨Xe, Xi⟩

end Go.Proofs.YtahhgjkgfbppeaaGreat.XA
