/- Contracts of the program's functions: each Go function that is named below comes to what its Lean function says. Written by xprint.py (a program of this session's, over the kit's print). Conditions: each contract's own premises. -/
import Derived.Test.YtahhgjkgfbppeaaGreatYConflictsOf0
import Derived.Test.YtahhgjkgfbppeaaGreatYConflictsOf2
import Derived.Test.YtahhgjkgfbppeaaGreatYConflictsOf6
namespace Go.Proofs.YtahhgjkgfbppeaaGreat.XA
open Go.RowKit Go.Proofs.YtahhgjkgfbppeaaGreatW.PrintWords Go.Proofs.YtahhgjkgfbppeaaGreatW.PrintLast Go.Proofs.YtahhgjkgfbppeaaGreatW.PrintMore XW
attribute [local go_sem] max2_int min2_int max_two min_two max_three min_three max_four min_four   -- for this text's walks alone
set_option linter.unusedVariables false
set_option linter.unusedSimpArgs false

/-! ### spec_l07At: function 77 -/
def spec_l07At.l0 : Nat → List (S39) → Int → Int → Int → Int → Int → Int → List (S113) → Option (Int)
 | 0, _, _, _, _, _, _, _, _ => none
 | k + 1, x1, x2, x3, x9, x10, x198000, x198001, x198002 => if x10 < (x1.length : Int) then (if 0 ≤ x10 then (if ((rd_T39 x1 x10).f0) = x2 then (if ((rd_T39 x1 x10).f1) = x3 then ((spec_l07Join.f k x9 ((rd_T39 x1 x10).f2)).bind fun t200 => (spec_l07At.l0 k x1 x2 x3 t200 (wrap64 (x10 + 1)) x198000 x198001 x198002)) else ((spec_l02Path.f k x198000 x198001 x198002 ((rd_T39 x1 x10).f1)).bind fun t201 => ((spec_l02Has.f k t201 x3).bind fun t204 => (if t204 = true then ((spec_l07Intent.f ((rd_T39 x1 x10).f2)).bind fun t205 => ((spec_l07Join.f k x9 t205).bind fun t206 => (spec_l07At.l0 k x1 x2 x3 t206 (wrap64 (x10 + 1)) x198000 x198001 x198002))) else (spec_l07At.l0 k x1 x2 x3 x9 (wrap64 (x10 + 1)) x198000 x198001 x198002))))) else (spec_l07At.l0 k x1 x2 x3 x9 (wrap64 (x10 + 1)) x198000 x198001 x198002)) else (none)) else (some x9)
def spec_l07At.f (k : Nat) (a0_0 : Int) (a0_1 : Int) (l0_2 : List (S113)) (l1 : List (S39)) (a2 : Int) (a3 : Int) : Option (Int) := spec_l07At.l0 k l1 a2 a3 0 0 a0_0 a0_1 l0_2
set_option maxHeartbeats 8000000 in
set_option maxRecDepth 100000 in
theorem spec_l07At.calls (k : Nat) (a0_0 : Int) (a0_1 : Int) (A0_2 : Option Addr) (c0_2 : Nat) (l0_2 : List (S113)) (A1 : Option Addr) (c1 : Nat) (l1 : List (S39)) (a2 : Int) (a3 : Int) (r : Int) (w : World) (hr0_2 : Kd.C k113 w A0_2 l0_2.length l0_2) (hc0_2 : l0_2.length ≤ c0_2) (hr1 : Kd.C k39 w A1 l1.length l1) (hc1 : l1.length ≤ c1) (h : spec_l07At.f k a0_0 a0_1 l0_2 l1 a2 a3 = some r) :
  Calls Tryz.prog 77 #[.agg #[.int .i64 a0_0, .int .i64 a0_1, .slice A0_2 l0_2.length c0_2], .slice A1 l1.length c1, .int .i64 a2, .int .i64 a3] w fun e w' => e = .returned (.int .i64 r) ∧ Below w.heap.size w w' := by
 have hu35 := Tryz.underlying35
 have hu39 := Tryz.underlying39
 have HR0_2 := Aside0.mk hr0_2
 have HC0_2 := Aside0.mk hc0_2
 clear hr0_2 hc0_2
 have HR1 := Aside0.mk hr1
 have HC1 := Aside0.mk hc1
 clear hr1 hc1
 have HB := Aside0.mk (Below.refl w.heap.size w)
 have H : (spec_l07At.l0 k l1 a2 a3 0 0 a0_0 a0_1 l0_2) = some r := h
 clear h
 have H' := Aside0.mk H
 clear H
 go_enter Tryz.func77, Tryz.ntmps77
 go_wp2_with (first | ((with_reducible refine gate_dst (N := 4) rfl ?_); refine Xbox 4 #[.int .i64 a0_0, .int .i64 a0_1, .slice A0_2 l0_2.length c0_2] 35 ?_; intro gb197 hg w5 hbox hb; have BK197 := Aside0.mk (hbox); have GE197 := Xge hg Xi; replace HB := Aside0.mk (below_step Xi hb); clear hb hbox hg))
 go_loopg [9, 10] k (fun kq v9 v10 w' => ∃ (x9_1 : Int) (x10_1 : Int), v9 = .int .i64 x9_1 ∧ v10 = .int .i64 x10_1 ∧ Aside0 (spec_l07At.l0 kq l1 a2 a3 x9_1 x10_1 a0_0 a0_1 l0_2 = some r) ∧ Aside0 (kq ≤ k) ∧ Aside0 (w'.heap[gb197]? = some (.cells #[.int .i64 a0_0, .int .i64 a0_1, (.slice A0_2 l0_2.length c0_2)] 35 (0, 0))) ∧ Aside0 (Below w.heap.size w w'))
 case atStart => exact ⟨(0), (0), Xr, Xr, H', Xkr, BK197, ⟨Xi⟩⟩
 case round =>
  clear H'
  (try clear c1)
  obtain ⟨x9_1, x10_1, rfl, rfl, HA, HK1, BK197, HB⟩ := hrel
  cases gk with
  | zero => cases HA.out
  | succ k1 =>
   have H := HA.out
   clear HA
   simp only [spec_l07At.l0] at H
   obtain ⟨c6b0, H⟩ | ⟨c6b0, H⟩ := Xit H
   ·obtain ⟨c7b0, H⟩ := Xid H
    have HC8 := Aside0.mk H
    clear H
    obtain ⟨ad198, e198, p198, q198, hx198_0, hx198_1, hx198_2⟩ := at_B39 HR1 x10_1 Xa Xa HB
    cases e198
    go_upto_if 25 with (first | ((with_reducible refine gate_dst (N := 11) rfl ?_); refine Xbox 11 #[.int .i64 0, .int .i64 0, .int .i64 0] 39 ?_; intro gb199 hg w9 hbox hb; have BK199 := Aside0.mk (hbox); have GE199 := Xge hg Xi; replace HB := Aside0.mk (below_step Xi hb); have NB197_199 := Xnb hg BK197; have NB199_197 := Xns NB197_199; replace BK197 := Xbb BK197 hb; clear hb hbox hg; have hnb10 := NB199_197.out; have hnc10 := NB197_199.out; obtain ⟨hcz11_0, hcz11_1, hcz11_2⟩ := Xc3 BK199; obtain ⟨hfz11_0, hfz11_1, hfz11_2⟩ := Xf3 BK199) | ((with_reducible refine gate_store (t := 39) (p := 11) rfl ?_); refine store_event (t := 39) (p := 11) (v := ?vo_w12) (w1 := (((w9.setCell ⟨gb199, 0, none⟩ (.int .i64 ((rd_T39 l1 x10_1).f0))).setCell ⟨gb199, 1, none⟩ (.int .i64 ((rd_T39 l1 x10_1).f1))).setCell ⟨gb199, 2, none⟩ (.int .i64 ((rd_T39 l1 x10_1).f2)))) ?hg ?ho ?hn ?hr ?_; (case ho => rfl); (case hg => rfl); (case hn => rfl); (case hr => first | (go_simp; done) | (go_simp; rfl)); intro w12 hw; have n0_ : Aside0 (w12.heap[gb197]? = some (.cells #[.int .i64 a0_0, .int .i64 a0_1, .slice A0_2 l0_2.length c0_2] 35 (0, 0))) := ⟨(by rw [hw]; exact (by (with_reducible repeat (first | refine blk_drewN ?_ _ | refine blk_drew ?_ | refine blk_alloc ?_ _)); refine blk_far ?_ NB197_199.out _; (with_reducible repeat (first | refine blk_drewN ?_ _ | refine blk_drew ?_ | refine blk_alloc ?_ _)); refine blk_far ?_ NB197_199.out _; (with_reducible repeat (first | refine blk_drewN ?_ _ | refine blk_drew ?_ | refine blk_alloc ?_ _)); refine blk_far ?_ NB197_199.out _; (with_reducible repeat (first | refine blk_drewN ?_ _ | refine blk_drew ?_ | refine blk_alloc ?_ _)); exact BK197.out))⟩; have n1_ : Aside0 (w12.heap[gb199]? = some (.cells #[.int .i64 ((rd_T39 l1 x10_1).f0), .int .i64 ((rd_T39 l1 x10_1).f1), .int .i64 ((rd_T39 l1 x10_1).f2)] 39 (0, 0))) := ⟨(by rw [hw]; exact (by (with_reducible repeat (first | refine blk_drewN ?_ _ | refine blk_drew ?_ | refine blk_alloc ?_ _)); refine blk_put (cs := #[.int .i64 ((rd_T39 l1 x10_1).f0), .int .i64 ((rd_T39 l1 x10_1).f1), .int .i64 0]) ?_ 2 _ rfl; (with_reducible repeat (first | refine blk_drewN ?_ _ | refine blk_drew ?_ | refine blk_alloc ?_ _)); refine blk_put (cs := #[.int .i64 ((rd_T39 l1 x10_1).f0), .int .i64 0, .int .i64 0]) ?_ 1 _ rfl; (with_reducible repeat (first | refine blk_drewN ?_ _ | refine blk_drew ?_ | refine blk_alloc ?_ _)); refine blk_put (cs := #[.int .i64 0, .int .i64 0, .int .i64 0]) ?_ 0 _ rfl; (with_reducible repeat (first | refine blk_drewN ?_ _ | refine blk_drew ?_ | refine blk_alloc ?_ _)); exact BK199.out))⟩; have n2_ : Aside0 (Below w.heap.size w w12) := ⟨(by rw [hw]; exact Xi)⟩; clear hw; clear BK197; clear BK199; clear HB; have BK197 := n0_; have BK199 := n1_; have HB := n2_; clear n0_ n1_ n2_; obtain ⟨hcz13_0, hcz13_1, hcz13_2⟩ := Xc3 BK199; obtain ⟨hfz13_0, hfz13_1, hfz13_2⟩ := Xf3 BK199))
    have H := HC8.out
    clear HC8
    obtain ⟨c14, H⟩ | ⟨c14, H⟩ := Xiu H
    ·have c14b0 : (((rd_T39 l1 x10_1).f0) == a2) = true := beq_iff_eq.mpr c14
     have c14b1 : (((rd_T39 l1 x10_1).f0) != a2) = false := bne_eq_false_iff_eq.mpr c14
     clear c14
     (first | rw [c14b0] | (simp only [i64_w, i32_w]; rw [c14b0]) | skip)
     obtain ⟨c15, H⟩ | ⟨c15, H⟩ := Xiu H
     ·have c15b0 : (((rd_T39 l1 x10_1).f1) == a3) = true := beq_iff_eq.mpr c15
      have c15b1 : (((rd_T39 l1 x10_1).f1) != a3) = false := bne_eq_false_iff_eq.mpr c15
      clear c15
      obtain ⟨t200, A16, H⟩ := Xbi H
      (try dsimp only at H)
      have H' := Aside0.mk H
      clear H
      have hnb17 := NB199_197.out
      have hnc17 := NB197_199.out
      obtain ⟨hcz18_0, hcz18_1, hcz18_2⟩ := Xc3 BK199
      obtain ⟨hfz18_0, hfz18_1, hfz18_2⟩ := Xf3 BK199
      go_wp2_with (first | ((with_reducible refine gate_callee (f := 133) rfl ?_); refine Xgo 33 Tryz.func133 #[.int .i64 x9_1, .int .i64 ((rd_T39 l1 x10_1).f2)] ?_; (with_reducible refine (spec_l07Join.calls k1 x9_1 ((rd_T39 l1 x10_1).f2) t200 _ A16.out).mono ?_); rintro e w19 ⟨rfl, hb⟩; refine ⟨_, rfl, ?_⟩; replace BK197 := Xbb BK197 hb; replace BK199 := Xbb BK199 hb; replace HB := Aside0.mk (below_step Xi hb); clear hb))
      go_roundg k1
      case measure => have := HK1.out; omega
      case rel => exact ⟨(t200), (wrap64 (x10_1 + 1)), Xr, Xr, H', Xk1, BK197, ⟨Xi⟩⟩
     ·have c15b0 : (((rd_T39 l1 x10_1).f1) == a3) = false := beq_eq_false_iff_ne.mpr c15
      have c15b1 : (((rd_T39 l1 x10_1).f1) != a3) = true := bne_iff_ne.mpr c15
      obtain ⟨t201, A20, H⟩ := Xbi H
      (try dsimp only at H)
      obtain ⟨t204, A21, H⟩ := Xbi H
      (try dsimp only at H)
      have HC22 := Aside0.mk H
      clear H
      have hnb23 := NB199_197.out
      have hnc23 := NB197_199.out
      obtain ⟨hcz24_0, hcz24_1, hcz24_2⟩ := Xc3 BK199
      obtain ⟨hfz24_0, hfz24_1, hfz24_2⟩ := Xf3 BK199
      obtain ⟨hcz25_0, hcz25_1, hcz25_2⟩ := Xc3 BK197
      obtain ⟨hfz25_0, hfz25_1, hfz25_2⟩ := Xf3 BK197
      go_upto_if 39 with (first | ((with_reducible refine gate_callee (f := 134) rfl ?_); refine Xgo 37 Tryz.func134 #[.agg #[.int .i64 a0_0, .int .i64 a0_1, .slice A0_2 l0_2.length c0_2], .int .i64 ((rd_T39 l1 x10_1).f1)] ?_; (with_reducible refine (spec_l02Path.calls k1 a0_0 a0_1 _ _ l0_2 ((rd_T39 l1 x10_1).f1) t201 _ ?side1 ?side2 A20.out).mono ?_); (case side1 => exact Xc HR0_2); (case side2 => exact HC0_2.out); rintro e w26 ⟨v202, rfl, ho0, hb⟩; refine ⟨_, rfl, ?_⟩; have HO203 := Aside0.mk (Kd.R_lower ho0 (below_size Xi)); replace BK197 := Xbb BK197 hb; replace BK199 := Xbb BK199 hb; replace HB := Aside0.mk (below_step Xi hb); clear hb; (try clear ho0); obtain ⟨Ao27, co27, eo27⟩ := Kd.R_slice HO203.out; subst eo27) | ((with_reducible refine gate_callee (f := 104) rfl ?_); refine Xgo 39 Tryz.func104 #[.slice Ao27 t201.length co27, .int .i64 a3] ?_; (with_reducible refine (spec_l02Has.calls k1 _ _ t201 a3 t204 _ ?side1 ?side2 A21.out).mono ?_); (case side1 => repeat (first | exact (Kd.R_reads' HO203.out).2.2 | (with_reducible first | refine Kd.C_alloc ?_ _ | refine Kd.C_drewN ?_ _ | refine Kd.C_drew ?_))); (case side2 => exact (Kd.R_reads' HO203.out).2.1); rintro e w' ⟨rfl, ⟨nd, rfl⟩⟩; refine ⟨_, rfl, ?_⟩))
      have H := HC22.out
      clear HC22
      by_cases c28 : t204 = true
      ·subst c28
       (first | rw [if_pos rfl] at H | skip)
       obtain ⟨t205, A29, H⟩ := Xbi H
       (try dsimp only at H)
       obtain ⟨t206, A30, H⟩ := Xbi H
       (try dsimp only at H)
       have H' := Aside0.mk H
       clear H
       have hnb31 := NB199_197.out
       have hnc31 := NB197_199.out
       obtain ⟨hcz32_0, hcz32_1, hcz32_2⟩ := Xc3 BK199
       obtain ⟨hfz32_0, hfz32_1, hfz32_2⟩ := Xf3 BK199
       go_wp2_with (first | ((with_reducible refine gate_callee (f := 135) rfl ?_); refine Xgo 43 Tryz.func135 #[.int .i64 ((rd_T39 l1 x10_1).f2)] ?_; (with_reducible refine (spec_l07Intent.calls ((rd_T39 l1 x10_1).f2) t205 _ A29.out).mono ?_); rintro e w' ⟨rfl, ⟨nd, rfl⟩⟩; refine ⟨_, rfl, ?_⟩) | ((with_reducible refine gate_callee (f := 133) rfl ?_); refine Xgo 44 Tryz.func133 #[.int .i64 x9_1, .int .i64 t205] ?_; (with_reducible refine (spec_l07Join.calls k1 x9_1 t205 t206 _ A30.out).mono ?_); rintro e w33 ⟨rfl, hb⟩; refine ⟨_, rfl, ?_⟩; replace HO203 := Aside0.mk (Kd.R_below (Xq HO203) hb); replace BK197 := Xbb BK197 hb; replace BK199 := Xbb BK199 hb; replace HB := Aside0.mk (below_step Xi hb); clear hb))
       go_roundg k1
       case measure => have := HK1.out; omega
       case rel => exact ⟨(t206), (wrap64 (x10_1 + 1)), Xr, Xr, H', Xk1, BK197, ⟨Xi⟩⟩
      ·replace c28 := Bool.eq_false_iff.mpr c28
       subst c28
       (first | rw [if_neg (show ¬ (false = true) by decide)] at H | skip)
       have H' := Aside0.mk H
       clear H
       go_wp2
       go_roundg k1
       case measure => have := HK1.out; omega
       case rel => exact ⟨(x9_1), (wrap64 (x10_1 + 1)), Xr, Xr, H', Xk1, BK197, ⟨Xi⟩⟩
    ·have c14b0 : (((rd_T39 l1 x10_1).f0) == a2) = false := beq_eq_false_iff_ne.mpr c14
     have c14b1 : (((rd_T39 l1 x10_1).f0) != a2) = true := bne_iff_ne.mpr c14
     (first | rw [c14b0] | (simp only [i64_w, i32_w]; rw [c14b0]) | skip)
     have H' := Aside0.mk H
     clear H
     go_wp2
     go_roundg k1
     case measure => have := HK1.out; omega
     case rel => exact ⟨(x9_1), (wrap64 (x10_1 + 1)), Xr, Xr, H', Xk1, BK197, ⟨Xi⟩⟩
   ·obtain rfl := Option.some.inj H
    go_wp2
    go_ret
    exact ⟨Xe, Xi⟩

/-! ### spec_l07Need: function 145 -/
def spec_l07Need.f (a0_0 : Int) (a0_1 : Int) (a0_2 : Int) (a1 : Int) : Option (Int) := if a1 = a0_1 then (some a0_2) else ((spec_l07Intent.f a0_2).bind fun t208 => (some t208))
set_option maxHeartbeats 8000000 in
set_option maxRecDepth 100000 in
theorem spec_l07Need.calls (a0_0 : Int) (a0_1 : Int) (a0_2 : Int) (a1 : Int) (r : Int) (w : World) (h : spec_l07Need.f a0_0 a0_1 a0_2 a1 = some r) :
  Calls Tryz.prog 145 #[.agg #[.int .i64 a0_0, .int .i64 a0_1, .int .i64 a0_2], .int .i64 a1] w fun e w' => e = .returned (.int .i64 r) ∧ Below w.heap.size w w' := by
 have hu39 := Tryz.underlying39
 have HB := Aside0.mk (Below.refl w.heap.size w)
 have H : (if a1 = a0_1 then (some a0_2) else ((spec_l07Intent.f a0_2).bind fun t208 => (some t208))) = some r := h
 clear h
 have HC3 := Aside0.mk H
 clear H
 go_enter Tryz.func145, Tryz.ntmps145
 go_upto_if 8 with (first | ((with_reducible refine gate_dst (N := 2) rfl ?_); refine Xbox 2 #[.int .i64 a0_0, .int .i64 a0_1, .int .i64 a0_2] 39 ?_; intro gb207 hg w4 hbox hb; have BK207 := Aside0.mk (hbox); have GE207 := Xge hg Xi; replace HB := Aside0.mk (below_step Xi hb); clear hb hbox hg; obtain ⟨hcz5_0, hcz5_1, hcz5_2⟩ := Xc3 BK207))
 have H := HC3.out
 clear HC3
 obtain ⟨c6, H⟩ | ⟨c6, H⟩ := Xiu H
 ·have c6b0 : (a1 == a0_1) = true := beq_iff_eq.mpr c6
  have c6b1 : (a1 != a0_1) = false := bne_eq_false_iff_eq.mpr c6
  clear c6
  (first | rw [c6b0] | (simp only [i64_w, i32_w]; rw [c6b0]) | skip)
  obtain rfl := Option.some.inj H
  obtain ⟨hcz7_0, hcz7_1, hcz7_2⟩ := Xc3 BK207
  go_wp2
  go_ret
  exact ⟨Xe, Xi⟩
 ·have c6b0 : (a1 == a0_1) = false := beq_eq_false_iff_ne.mpr c6
  have c6b1 : (a1 != a0_1) = true := bne_iff_ne.mpr c6
  (first | rw [c6b0] | (simp only [i64_w, i32_w]; rw [c6b0]) | skip)
  obtain ⟨t208, A8, H⟩ := Xbi H
  (try dsimp only at H)
  obtain rfl := Option.some.inj H
  obtain ⟨hcz9_0, hcz9_1, hcz9_2⟩ := Xc3 BK207
  go_wp2_with (first | ((with_reducible refine gate_callee (f := 135) rfl ?_); refine Xgo 13 Tryz.func135 #[.int .i64 a0_2] ?_; (with_reducible refine (spec_l07Intent.calls a0_2 t208 _ A8.out).mono ?_); rintro e w' ⟨rfl, ⟨nd, rfl⟩⟩; refine ⟨_, rfl, ?_⟩))
  go_ret
  exact ⟨Xe, Xi⟩

/-! ### spec_l07Fits: function 146 -/
mutual
def spec_l07Fits.j0 : Nat → Int → Int → Bool → Option (Bool)
 | 0, _, _, _ => none
 | k + 1, x0, x1, x10 => if x10 = true then (some true) else (if x0 > x1 then ((spec_l07Fits.f k x1 x0).bind fun t209 => (some t209)) else (if x0 = 1 then (some (x1 != 5)) else (if x0 = 2 then (some (x1 == 2)) else (if x0 = 3 then (some (x1 == 3)) else (some false)))))
def spec_l07Fits.f : Nat → Int → Int → Option (Bool)
 | 0, _, _ => none
 | k + 1, a0, a1 => if a0 = 0 then (spec_l07Fits.j0 k a0 a1 true) else (spec_l07Fits.j0 k a0 a1 (a1 == 0))
end
set_option maxHeartbeats 8000000 in
set_option maxRecDepth 100000 in
theorem spec_l07Fits.calls (k : Nat) : ∀ (a0 : Int) (a1 : Int) (r : Bool) (w : World) (h : spec_l07Fits.f k a0 a1 = some r),
  Calls Tryz.prog 146 #[.int .i64 a0, .int .i64 a1] w fun e w' => e = .returned (.bool r) ∧ Below w.heap.size w w' := by
 induction k using Nat.strongRecOn with
 | _ k ih =>
 intro a0 a1 r w h
 cases k with
 | zero => exact absurd h (by simp [spec_l07Fits.f])
 | succ k =>
 simp only [spec_l07Fits.f] at h
 have HB := Aside0.mk (Below.refl w.heap.size w)
 have H : (if a0 = 0 then (spec_l07Fits.j0 k a0 a1 true) else (spec_l07Fits.j0 k a0 a1 (a1 == 0))) = some r := h
 clear h
 have HC3 := Aside0.mk H
 clear H
 go_enter Tryz.func146, Tryz.ntmps146
 go_upto_region 1 with (fail)
 go_cut [10] (fun v10 wc => ∃ (kq : Nat) (x10_2 : Bool), v10 = .bool x10_2 ∧ Aside0 (spec_l07Fits.j0 kq a0 a1 x10_2 = some r) ∧ Aside0 (kq ≤ k) ∧ Aside0 (Below w.heap.size w wc))
 case first =>
  have H := HC3.out
  clear HC3
  obtain ⟨c4, H⟩ | ⟨c4, H⟩ := Xiu H
  ·have c4b0 : (a0 == 0) = true := beq_iff_eq.mpr c4
   have c4b1 : (a0 != 0) = false := bne_eq_false_iff_eq.mpr c4
   clear c4
   (first | rw [c4b0] | (simp only [i64_w, i32_w]; rw [c4b0]) | skip)
   have H' := Aside0.mk H
   clear H
   go_wp2
   go_meet
   case rel => exact ⟨_, (true), Xr, H', Xko, ⟨Xi⟩⟩
  ·have c4b0 : (a0 == 0) = false := beq_eq_false_iff_ne.mpr c4
   have c4b1 : (a0 != 0) = true := bne_iff_ne.mpr c4
   (first | rw [c4b0] | (simp only [i64_w, i32_w]; rw [c4b0]) | skip)
   have H' := Aside0.mk H
   clear H
   go_wp2
   go_meet
   case rel => exact ⟨_, ((a1 == 0)), Xr, H', Xko, ⟨Xi⟩⟩
 case rest =>
  clear HC3
  obtain ⟨kq, x10_2, rfl, HA, HJ2, HB⟩ := hcut
  cases kq with
  | zero => cases HA.out
  | succ kj2 =>
   have H := HA.out
   clear HA
   simp only [spec_l07Fits.j0] at H
   by_cases c5 : x10_2 = true
   ·subst c5
    (first | rw [if_pos rfl] at H | skip)
    obtain rfl := Option.some.inj H
    go_wp2
    go_ret
    exact ⟨Xe, Xi⟩
   ·replace c5 := Bool.eq_false_iff.mpr c5
    subst c5
    (first | rw [if_neg (show ¬ (false = true) by decide)] at H | skip)
    obtain ⟨c6, H⟩ | ⟨c6, H⟩ := Xiu H
    ·have c6b0 : decide (a1 < a0) = true := decide_eq_true c6
     clear c6
     obtain ⟨t209, A7, H⟩ := Xbi H
     (try dsimp only at H)
     obtain rfl := Option.some.inj H
     go_wp2_with (first | ((with_reducible refine gate_callee (f := 146) rfl ?_); refine Xgo 16 Tryz.func146 #[.int .i64 a1, .int .i64 a0] ?_; (with_reducible refine (ih kj2 (by have := HJ2.out; omega) a1 a0 t209 _ A7.out).mono ?_); rintro e w8 ⟨rfl, hb⟩; refine ⟨_, rfl, ?_⟩; replace HB := Aside0.mk (below_step Xi hb); clear hb))
     go_ret
     exact ⟨Xe, Xi⟩
    ·have c6b0 : decide (a1 < a0) = false := decide_eq_false c6
     clear c6
     obtain ⟨c9, H⟩ | ⟨c9, H⟩ := Xiu H
     ·have c9b0 : (a0 == 1) = true := beq_iff_eq.mpr c9
      have c9b1 : (a0 != 1) = false := bne_eq_false_iff_eq.mpr c9
      clear c9
      obtain rfl := Option.some.inj H
      go_wp2
      go_ret
      exact ⟨Xe, Xi⟩
     ·have c9b0 : (a0 == 1) = false := beq_eq_false_iff_ne.mpr c9
      have c9b1 : (a0 != 1) = true := bne_iff_ne.mpr c9
      obtain ⟨c10, H⟩ | ⟨c10, H⟩ := Xiu H
      ·have c10b0 : (a0 == 2) = true := beq_iff_eq.mpr c10
       have c10b1 : (a0 != 2) = false := bne_eq_false_iff_eq.mpr c10
       clear c10
       obtain rfl := Option.some.inj H
       go_wp2
       go_ret
       exact ⟨Xe, Xi⟩
      ·have c10b0 : (a0 == 2) = false := beq_eq_false_iff_ne.mpr c10
       have c10b1 : (a0 != 2) = true := bne_iff_ne.mpr c10
       obtain ⟨c11, H⟩ | ⟨c11, H⟩ := Xiu H
       ·have c11b0 : (a0 == 3) = true := beq_iff_eq.mpr c11
        have c11b1 : (a0 != 3) = false := bne_eq_false_iff_eq.mpr c11
        clear c11
        obtain rfl := Option.some.inj H
        go_wp2
        go_ret
        exact ⟨Xe, Xi⟩
       ·have c11b0 : (a0 == 3) = false := beq_eq_false_iff_ne.mpr c11
        have c11b1 : (a0 != 3) = true := bne_iff_ne.mpr c11
        obtain rfl := Option.some.inj H
        go_wp2
        go_ret
        exact ⟨Xe, Xi⟩

end Go.Proofs.YtahhgjkgfbppeaaGreat.XA
