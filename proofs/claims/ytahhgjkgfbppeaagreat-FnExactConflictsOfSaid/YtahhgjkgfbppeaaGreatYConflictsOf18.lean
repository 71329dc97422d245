/- Contracts of the program's functions: each Go function that is named below comes to what its Lean function says. Written by xprint.py (a program of this session's, over the kit's print). Conditions: each contract's own premises. -/
import Derived.Test.YtahhgjkgfbppeaaGreatYConflictsOf0
import Derived.Test.YtahhgjkgfbppeaaGreatYConflictsOf15
import Derived.Test.YtahhgjkgfbppeaaGreatYConflictsOf16
import Derived.Test.YtahhgjkgfbppeaaGreatYConflictsOf17
namespace Go.Proofs.YtahhgjkgfbppeaaGreat.XA
open Go.RowKit Go.Proofs.YtahhgjkgfbppeaaGreatW.PrintWords Go.Proofs.YtahhgjkgfbppeaaGreatW.PrintLast Go.Proofs.YtahhgjkgfbppeaaGreatW.PrintMore XW
attribute [local go_sem] max2_int min2_int max_two min_two max_three min_three max_four min_four   -- for this text's walks alone
set_option linter.unusedVariables false
set_option linter.unusedSimpArgs false

/-! ### impl_Doc_conflicts_1: function 95 -/
def impl_Doc_conflicts_1.f (k : Nat) (a0 : Int) (a1_0 : Int) (a1_1 : Int) (a1_2 : Int) (a2_0 : Int) (a2_1 : Int) (l2_2 : List (S113)) (l3_0 : List (S39)) : Option (Bool) := if a0 = a1_0 then (some true) else ((impl_Doc_path.f k a2_0 a2_1 l2_2 a1_1).bind fun t447 => ((slices_ContainsFunc_int_int_at_impl_Doc_conflicts_1_1.f k t447 a2_0 a2_1 l2_2 l3_0 a0 a1_0 a1_1 a1_2).bind fun t450 => (some (!t450))))
set_option maxHeartbeats 8000000 in
set_option maxRecDepth 100000 in
theorem impl_Doc_conflicts_1.calls (k : Nat) (a0 : Int) (g1_ : Nat) (a1_0 : Int) (a1_1 : Int) (a1_2 : Int) (g2_ : Nat) (q2_ : Nat) (a2_0 : Int) (a2_1 : Int) (A2_2 : Option Addr) (c2_2 : Nat) (l2_2 : List (S113)) (g3_ : Nat) (A3_0 : Option Addr) (c3_0 : Nat) (l3_0 : List (S39)) (r : Bool) (w : World) (hg1_ : w.heap[g1_]? = some (.cells #[.int .i64 a1_0, .int .i64 a1_1, .int .i64 a1_2] 39 (0, 0))) (hq2_ : w.heap[q2_]? = some (.cells #[.int .i64 a2_0, .int .i64 a2_1, .slice A2_2 l2_2.length c2_2] 35 (0, 0))) (hg2_ : w.heap[g2_]? = some (.cells #[.pointer (some ⟨q2_, 0, none⟩)] 115 (0, 0))) (hr2_2 : Kd.C k113 w A2_2 l2_2.length l2_2) (hc2_2 : l2_2.length ≤ c2_2) (hg3_ : w.heap[g3_]? = some (.cells #[.slice A3_0 l3_0.length c3_0] 37 (0, 0))) (hr3_0 : Kd.C k39 w A3_0 l3_0.length l3_0) (hc3_0 : l3_0.length ≤ c3_0) (h : impl_Doc_conflicts_1.f k a0 a1_0 a1_1 a1_2 a2_0 a2_1 l2_2 l3_0 = some r) :
  Calls Tryz.prog 95 #[.int .i64 a0, .pointer (some ⟨g1_, 0, none⟩), .pointer (some ⟨g2_, 0, none⟩), .pointer (some ⟨g3_, 0, none⟩)] w fun e w' => e = .returned (.bool r) ∧ Below w.heap.size w w' := by
 have HR2_2 := Aside0.mk hr2_2
 have HC2_2 := Aside0.mk hc2_2
 clear hr2_2 hc2_2
 have HR3_0 := Aside0.mk hr3_0
 have HC3_0 := Aside0.mk hc3_0
 clear hr3_0 hc3_0
 have BK1 := Aside0.mk hg1_
 clear hg1_
 have BK82 := Aside0.mk hq2_
 clear hq2_
 have BK2 := Aside0.mk hg2_
 clear hg2_
 have BK3 := Aside0.mk hg3_
 clear hg3_
 have HB := Aside0.mk (Below.refl w.heap.size w)
 have H : (if a0 = a1_0 then (some true) else ((impl_Doc_path.f k a2_0 a2_1 l2_2 a1_1).bind fun t447 => ((slices_ContainsFunc_int_int_at_impl_Doc_conflicts_1_1.f k t447 a2_0 a2_1 l2_2 l3_0 a0 a1_0 a1_1 a1_2).bind fun t450 => (some (!t450))))) = some r := h
 clear h
 have HC5 := Aside0.mk H
 clear H
 go_enter Tryz.func95, Tryz.ntmps95
 go_upto_region 1 with (first | ((with_reducible refine gate_dst (N := 4) rfl ?_); refine Xbox 4 #[.int .i64 a0] 3 ?_; intro gb446 hg w6 hbox hb; have BK446 := Aside0.mk (hbox); have GE446 := Xge hg Xi; replace HB := Aside0.mk (below_step Xi hb); have NB1_446 := Xnb hg BK1; have NB446_1 := Xns NB1_446; replace BK1 := Xbb BK1 hb; have NB82_446 := Xnb hg BK82; have NB446_82 := Xns NB82_446; replace BK82 := Xbb BK82 hb; have NB2_446 := Xnb hg BK2; have NB446_2 := Xns NB2_446; replace BK2 := Xbb BK2 hb; have NB3_446 := Xnb hg BK3; have NB446_3 := Xns NB3_446; replace BK3 := Xbb BK3 hb; clear hb hbox hg))
 have H := HC5.out
 clear HC5
 obtain ⟨c7, H⟩ | ⟨c7, H⟩ := Xiu H
 ·have c7b0 : (a0 == a1_0) = true := beq_iff_eq.mpr c7
  have c7b1 : (a0 != a1_0) = false := bne_eq_false_iff_eq.mpr c7
  clear c7
  obtain rfl := Option.some.inj H
  have hnb8 := NB446_1.out
  have hnc8 := NB1_446.out
  have hnb9 := NB446_82.out
  have hnc9 := NB82_446.out
  have hnb10 := NB446_2.out
  have hnc10 := NB2_446.out
  have hnb11 := NB446_3.out
  have hnc11 := NB3_446.out
  have hcz12_0 := (blk_cell BK446.out 0).trans XW.i0
  obtain ⟨hcz13_0, hcz13_1, hcz13_2⟩ := Xc3 BK1
  go_wp2
  go_ret
  exact ⟨Xe, Xi⟩
 ·have c7b0 : (a0 == a1_0) = false := beq_eq_false_iff_ne.mpr c7
  have c7b1 : (a0 != a1_0) = true := bne_iff_ne.mpr c7
  obtain ⟨t447, A14, H⟩ := Xbi H
  (try dsimp only at H)
  obtain ⟨t450, A15, H⟩ := Xbi H
  (try dsimp only at H)
  obtain rfl := Option.some.inj H
  have hnb16 := NB446_1.out
  have hnc16 := NB1_446.out
  have hnb17 := NB446_82.out
  have hnc17 := NB82_446.out
  have hnb18 := NB446_2.out
  have hnc18 := NB2_446.out
  have hnb19 := NB446_3.out
  have hnc19 := NB3_446.out
  have hcz20_0 := (blk_cell BK446.out 0).trans XW.i0
  obtain ⟨hcz21_0, hcz21_1, hcz21_2⟩ := Xc3 BK1
  have hcz22_0 := (blk_cell BK2.out 0).trans XW.i0
  go_wp2_with (first | (go_at_call 72; (with_reducible refine (impl_Doc_path.calls k q2_ a2_0 a2_1 A2_2 c2_2 l2_2 a1_1 t447 _ ?side1 ?side2 ?side3 A14.out).mono ?_); (case side1 => exact BK82.out); (case side2 => exact Xc HR2_2); (case side3 => exact HC2_2.out); rintro e w23 ⟨v448, rfl, ho0, hb⟩; have HO449 := Aside0.mk (Kd.R_lower (Kd.R_newB ho0 (g := gb446) (o := .cells #[.int .i64 a0] 3 (0, 0)) BK446.out) (below_size Xi)); replace BK1 := Xbb BK1 hb; replace BK82 := Xbb BK82 hb; replace BK2 := Xbb BK2 hb; replace BK3 := Xbb BK3 hb; replace BK446 := Xbb BK446 hb; replace HB := Aside0.mk (below_step Xi hb); clear hb; (try clear ho0); obtain ⟨Ao24, co24, eo24⟩ := Kd.R_slice HO449.out; subst eo24) | (go_at_call 96; (with_reducible refine (slices_ContainsFunc_int_int_at_impl_Doc_conflicts_1_1.calls k _ _ t447 g2_ q2_ g3_ gb446 g1_ a2_0 a2_1 A2_2 c2_2 l2_2 A3_0 c3_0 l3_0 a0 a1_0 a1_1 a1_2 t450 _ ?side1 ?side2 ?side3 ?side4 ?side5 ?side6 ?side7 ?side8 ?side9 ?side10 ?side11 A15.out).mono ?_); (case side1 => repeat (first | exact (Kd.R_reads' HO449.out).2.2 | (with_reducible first | refine Kd.C_alloc ?_ _ | refine Kd.C_drewN ?_ _ | refine Kd.C_drew ?_))); (case side2 => exact (Kd.R_reads' HO449.out).2.1); (case side3 => exact BK82.out); (case side4 => exact BK2.out); (case side5 => exact BK3.out); (case side6 => exact BK446.out); (case side7 => exact BK1.out); (case side8 => exact Xc HR2_2); (case side9 => exact HC2_2.out); (case side10 => exact Xc HR3_0); (case side11 => exact HC3_0.out); rintro e w25 ⟨rfl, hb⟩; replace HO449 := Aside0.mk (Kd.R_below (Xq HO449) hb); replace BK1 := Xbb BK1 hb; replace BK82 := Xbb BK82 hb; replace BK2 := Xbb BK2 hb; replace BK3 := Xbb BK3 hb; replace BK446 := Xbb BK446 hb; replace HB := Aside0.mk (below_step Xi hb); clear hb))
  go_ret
  exact ⟨Xe, Xi⟩

/-! ### slices_IndexFunc_int_int_at_impl_Doc_conflicts_1: function 148 -/
def slices_IndexFunc_int_int_at_impl_Doc_conflicts_1.l0 : Nat → List Int → Int → Int → Int → Int → Int → List (S39) → Int → Int → List (S113) → Option (Int)
 | 0, _, _, _, _, _, _, _, _, _, _ => none
 | k + 1, x0, x7, x8, x26000, x26001, x26002, x28000, x57000, x57001, x57002 => if x8 < x7 then (if 0 ≤ x8 then (if x8 < (x0.length : Int) then ((impl_Doc_conflicts_1.f k (rd x0 x8) x26000 x26001 x26002 x57000 x57001 x57002 x28000).bind fun t452 => (if t452 = true then (some x8) else (slices_IndexFunc_int_int_at_impl_Doc_conflicts_1.l0 k x0 x7 (wrap64 (x8 + 1)) x26000 x26001 x26002 x28000 x57000 x57001 x57002))) else (none)) else (none)) else (some (-1))
def slices_IndexFunc_int_int_at_impl_Doc_conflicts_1.f (k : Nat) (l0 : List Int) (a1_0_0 : Int) (a1_0_1 : Int) (a1_0_2 : Int) (a1_1_0 : Int) (a1_1_1 : Int) (l1_1_2 : List (S113)) (l1_2_0 : List (S39)) : Option (Int) := slices_IndexFunc_int_int_at_impl_Doc_conflicts_1.l0 k l0 (l0.length : Int) 0 a1_0_0 a1_0_1 a1_0_2 l1_2_0 a1_1_0 a1_1_1 l1_1_2
set_option maxHeartbeats 8000000 in
set_option maxRecDepth 100000 in
theorem slices_IndexFunc_int_int_at_impl_Doc_conflicts_1.calls (k : Nat) (A0 : Option Addr) (c0 : Nat) (l0 : List Int) (g1_0_ : Nat) (g1_1_ : Nat) (q1_1_ : Nat) (g1_2_ : Nat) (a1_0_0 : Int) (a1_0_1 : Int) (a1_0_2 : Int) (a1_1_0 : Int) (a1_1_1 : Int) (A1_1_2 : Option Addr) (c1_1_2 : Nat) (l1_1_2 : List (S113)) (A1_2_0 : Option Addr) (c1_2_0 : Nat) (l1_2_0 : List (S39)) (r : Int) (w : World) (hr0 : Kd.C (Kd.int .i64) w A0 l0.length l0) (hc0 : l0.length ≤ c0) (hg1_0_ : w.heap[g1_0_]? = some (.cells #[.int .i64 a1_0_0, .int .i64 a1_0_1, .int .i64 a1_0_2] 39 (0, 0))) (hq1_1_ : w.heap[q1_1_]? = some (.cells #[.int .i64 a1_1_0, .int .i64 a1_1_1, .slice A1_1_2 l1_1_2.length c1_1_2] 35 (0, 0))) (hg1_1_ : w.heap[g1_1_]? = some (.cells #[.pointer (some ⟨q1_1_, 0, none⟩)] 115 (0, 0))) (hg1_2_ : w.heap[g1_2_]? = some (.cells #[.slice A1_2_0 l1_2_0.length c1_2_0] 37 (0, 0))) (hr1_1_2 : Kd.C k113 w A1_1_2 l1_1_2.length l1_1_2) (hc1_1_2 : l1_1_2.length ≤ c1_1_2) (hr1_2_0 : Kd.C k39 w A1_2_0 l1_2_0.length l1_2_0) (hc1_2_0 : l1_2_0.length ≤ c1_2_0) (h : slices_IndexFunc_int_int_at_impl_Doc_conflicts_1.f k l0 a1_0_0 a1_0_1 a1_0_2 a1_1_0 a1_1_1 l1_1_2 l1_2_0 = some r) :
  Calls Tryz.prog 148 #[.slice A0 l0.length c0, .func (.func 95) #[] #[.pointer (some ⟨g1_0_, 0, none⟩), .pointer (some ⟨g1_1_, 0, none⟩), .pointer (some ⟨g1_2_, 0, none⟩)]] w fun e w' => e = .returned (.int .i64 r) ∧ Below w.heap.size w w' := by
 have HR0 := Aside0.mk hr0
 have HC0 := Aside0.mk hc0
 clear hr0 hc0
 have HR1_1_2 := Aside0.mk hr1_1_2
 have HC1_1_2 := Aside0.mk hc1_1_2
 clear hr1_1_2 hc1_1_2
 have HR1_2_0 := Aside0.mk hr1_2_0
 have HC1_2_0 := Aside0.mk hc1_2_0
 clear hr1_2_0 hc1_2_0
 have BK25 := Aside0.mk hg1_0_
 clear hg1_0_
 have BK56 := Aside0.mk hq1_1_
 clear hq1_1_
 have BK26 := Aside0.mk hg1_1_
 clear hg1_1_
 have BK27 := Aside0.mk hg1_2_
 clear hg1_2_
 have HB := Aside0.mk (Below.refl w.heap.size w)
 have H : (slices_IndexFunc_int_int_at_impl_Doc_conflicts_1.l0 k l0 (l0.length : Int) 0 a1_0_0 a1_0_1 a1_0_2 l1_2_0 a1_1_0 a1_1_1 l1_1_2) = some r := h
 clear h
 have H' := Aside0.mk H
 clear H
 go_enter Tryz.func148, Tryz.ntmps148
 go_wp2
 go_loopg [8] k (fun kq v8 w' => ∃ (x8_1 : Int), v8 = .int .i64 x8_1 ∧ Aside0 (slices_IndexFunc_int_int_at_impl_Doc_conflicts_1.l0 kq l0 (l0.length : Int) x8_1 a1_0_0 a1_0_1 a1_0_2 l1_2_0 a1_1_0 a1_1_1 l1_1_2 = some r) ∧ Aside0 (kq ≤ k) ∧ Aside0 (w'.heap[g1_0_]? = some (.cells #[.int .i64 a1_0_0, .int .i64 a1_0_1, .int .i64 a1_0_2] 39 (0, 0))) ∧ Aside0 (w'.heap[q1_1_]? = some (.cells #[.int .i64 a1_1_0, .int .i64 a1_1_1, (.slice A1_1_2 l1_1_2.length c1_1_2)] 35 (0, 0))) ∧ Aside0 (w'.heap[g1_1_]? = some (.cells #[.pointer (some ⟨q1_1_, 0, none⟩)] 115 (0, 0))) ∧ Aside0 (w'.heap[g1_2_]? = some (.cells #[(.slice A1_2_0 l1_2_0.length c1_2_0)] 37 (0, 0))) ∧ Aside0 (Below w.heap.size w w'))
 case atStart => exact ⟨(0), Xr, H', Xkr, BK25, BK56, BK26, BK27, ⟨Xi⟩⟩
 case round =>
  clear H'
  obtain ⟨x8_1, rfl, HA, HK1, BK25, BK56, BK26, BK27, HB⟩ := hrel
  cases gk with
  | zero => cases HA.out
  | succ k1 =>
   have H := HA.out
   clear HA
   simp only [slices_IndexFunc_int_int_at_impl_Doc_conflicts_1.l0] at H
   obtain ⟨c3b0, H⟩ | ⟨c3b0, H⟩ := Xit H
   ·obtain ⟨c4b0, H⟩ := Xid H
    obtain ⟨c5b0, H⟩ := Xid H
    obtain ⟨t452, A6, H⟩ := Xbi H
    (try dsimp only at H)
    have HC7 := Aside0.mk H
    clear H
    have p451 : 0 ≤ (x8_1 : Int) := of_decide_eq_true Xa
    have q451 : x8_1 < (l0.length : Int) := of_decide_eq_true Xa
    obtain ⟨ad451, e451, hx451_0⟩ := Kd.at_int HR0.out x8_1 p451 q451
    cases e451
    replace hx451_0 := Xm HB hx451_0
    replace p451 := eq_true p451
    replace q451 := eq_true q451
    go_upto_if 16 with (first | (go_at_call 95; (with_reducible refine (impl_Doc_conflicts_1.calls k1 (rd l0 x8_1) g1_0_ a1_0_0 a1_0_1 a1_0_2 g1_1_ q1_1_ a1_1_0 a1_1_1 A1_1_2 c1_1_2 l1_1_2 g1_2_ A1_2_0 c1_2_0 l1_2_0 t452 _ ?side1 ?side2 ?side3 ?side4 ?side5 ?side6 ?side7 ?side8 A6.out).mono ?_); (case side1 => exact BK25.out); (case side2 => exact BK56.out); (case side3 => exact BK26.out); (case side4 => exact Xc HR1_1_2); (case side5 => exact HC1_1_2.out); (case side6 => exact BK27.out); (case side7 => exact Xc HR1_2_0); (case side8 => exact HC1_2_0.out); rintro e w8 ⟨rfl, hb⟩; replace BK25 := Xbb BK25 hb; replace BK56 := Xbb BK56 hb; replace BK26 := Xbb BK26 hb; replace BK27 := Xbb BK27 hb; replace HB := Aside0.mk (below_step Xi hb); clear hb))
    have H := HC7.out
    clear HC7
    by_cases c9 : t452 = true
    ·subst c9
     (first | rw [if_pos rfl] at H | skip)
     obtain rfl := Option.some.inj H
     go_wp2
     go_ret
     exact ⟨Xe, Xi⟩
    ·replace c9 := Bool.eq_false_iff.mpr c9
     subst c9
     (first | rw [if_neg (show ¬ (false = true) by decide)] at H | skip)
     have H' := Aside0.mk H
     clear H
     go_wp2
     go_roundg k1
     case measure => have := HK1.out; omega
     case rel => exact ⟨(wrap64 (x8_1 + 1)), Xr, H', Xk1, BK25, BK56, BK26, BK27, ⟨Xi⟩⟩
   ·obtain rfl := Option.some.inj H
    go_wp2
    go_ret
    exact ⟨Xe, Xi⟩

/-! ### slices_DeleteFunc_int_int_at_impl_Doc_conflicts_1: function 93 -/
def slices_DeleteFunc_int_int_at_impl_Doc_conflicts_1.l0 : Nat → List Int → Int → Int → Int → Int → Int → List (S39) → Int → Int → List (S113) → Option (List Int)
 | 0, _, _, _, _, _, _, _, _, _, _ => none
 | k + 1, x0, x5, x6, x26000, x26001, x26002, x28000, x57000, x57001, x57002 => if x6 < (x0.length : Int) then (if 0 ≤ x6 then ((impl_Doc_conflicts_1.f k (rd x0 x6) x26000 x26001 x26002 x57000 x57001 x57002 x28000).bind fun t455 => (if t455 = true then (slices_DeleteFunc_int_int_at_impl_Doc_conflicts_1.l0 k x0 x5 (wrap64 (x6 + 1)) x26000 x26001 x26002 x28000 x57000 x57001 x57002) else (if 0 ≤ x5 then (if x5 < (x0.length : Int) then (slices_DeleteFunc_int_int_at_impl_Doc_conflicts_1.l0 k (x0.set (x5 : Int).toNat (rd x0 x6)) (wrap64 (x5 + 1)) (wrap64 (x6 + 1)) x26000 x26001 x26002 x28000 x57000 x57001 x57002) else (none)) else (none)))) else (none)) else (if 0 ≤ x5 then (if x5 ≤ (x0.length : Int) then (some ((x0.take (x5 : Int).toNat ++ List.replicate (x0.length - (x5 : Int).toNat) 0).take (x5 : Int).toNat)) else (none)) else (none))
def slices_DeleteFunc_int_int_at_impl_Doc_conflicts_1.f (k : Nat) (l0 : List Int) (a1_0_0 : Int) (a1_0_1 : Int) (a1_0_2 : Int) (a1_1_0 : Int) (a1_1_1 : Int) (l1_1_2 : List (S113)) (l1_2_0 : List (S39)) : Option (List Int) := (slices_IndexFunc_int_int_at_impl_Doc_conflicts_1.f k l0 a1_0_0 a1_0_1 a1_0_2 a1_1_0 a1_1_1 l1_1_2 l1_2_0).bind fun t453 => (if t453 = (-1) then (some l0) else (slices_DeleteFunc_int_int_at_impl_Doc_conflicts_1.l0 k l0 t453 (wrap64 (t453 + 1)) a1_0_0 a1_0_1 a1_0_2 l1_2_0 a1_1_0 a1_1_1 l1_1_2))
set_option maxHeartbeats 8000000 in
set_option maxRecDepth 100000 in
theorem slices_DeleteFunc_int_int_at_impl_Doc_conflicts_1.calls (k : Nat) (P0_ : Nat → Prop) (u9000_ : Value) (l0 : List Int) (g1_0_ : Nat) (g1_1_ : Nat) (q1_1_ : Nat) (g1_2_ : Nat) (a1_0_0 : Int) (a1_0_1 : Int) (a1_0_2 : Int) (a1_1_0 : Int) (a1_1_1 : Int) (A1_1_2 : Option Addr) (c1_1_2 : Nat) (l1_1_2 : List (S113)) (A1_2_0 : Option Addr) (c1_2_0 : Nat) (l1_2_0 : List (S39)) (r : List Int) (w0 w : World) (hB : Below w0.heap.size w0 w) (ho0 : Kd.R (Kd.int .i64) 3 w w0.heap.size P0_ u9000_ l0) (hg1_0_ : w.heap[g1_0_]? = some (.cells #[.int .i64 a1_0_0, .int .i64 a1_0_1, .int .i64 a1_0_2] 39 (0, 0))) (hq1_1_ : w.heap[q1_1_]? = some (.cells #[.int .i64 a1_1_0, .int .i64 a1_1_1, .slice A1_1_2 l1_1_2.length c1_1_2] 35 (0, 0))) (hg1_1_ : w.heap[g1_1_]? = some (.cells #[.pointer (some ⟨q1_1_, 0, none⟩)] 115 (0, 0))) (hg1_2_ : w.heap[g1_2_]? = some (.cells #[.slice A1_2_0 l1_2_0.length c1_2_0] 37 (0, 0))) (hr1_1_2 : ∀ W_, Kept w W_ (fun k_ => P0_ k_) → Kd.C k113 W_ A1_1_2 l1_1_2.length l1_1_2) (hc1_1_2 : l1_1_2.length ≤ c1_1_2) (hr1_2_0 : ∀ W_, Kept w W_ (fun k_ => P0_ k_) → Kd.C k39 W_ A1_2_0 l1_2_0.length l1_2_0) (hc1_2_0 : l1_2_0.length ≤ c1_2_0) (h : slices_DeleteFunc_int_int_at_impl_Doc_conflicts_1.f k l0 a1_0_0 a1_0_1 a1_0_2 a1_1_0 a1_1_1 l1_1_2 l1_2_0 = some r) :
  Calls Tryz.prog 93 #[u9000_, .func (.func 95) #[] #[.pointer (some ⟨g1_0_, 0, none⟩), .pointer (some ⟨g1_1_, 0, none⟩), .pointer (some ⟨g1_2_, 0, none⟩)]] w fun e w' => ∃ v0_ : Value, e = .returned (v0_) ∧ Kd.R (Kd.int .i64) 3 w' w0.heap.size (fun k_ => (P0_ k_ ∨ w.heap.size ≤ k_)) v0_ r ∧ Below w0.heap.size w0 w' ∧ Kept w w' (fun k_ => P0_ k_) := by
 have HO0 := Aside0.mk (show Kd.R (Kd.int .i64) 3 w w0.heap.size (fun k_ => (P0_ k_ ∨ w.heap.size ≤ k_)) u9000_ l0 from Kd.R_mono ho0 (fun k_ hk => (.inl hk)))
 have HR1_1_2 := Aside0.mk hr1_1_2
 have HC1_1_2 := Aside0.mk hc1_1_2
 clear hr1_1_2 hc1_1_2
 have HR1_2_0 := Aside0.mk hr1_2_0
 have HC1_2_0 := Aside0.mk hc1_2_0
 clear hr1_2_0 hc1_2_0
 have BK25 := Aside0.mk hg1_0_
 clear hg1_0_
 have BK56 := Aside0.mk hq1_1_
 clear hq1_1_
 have BK26 := Aside0.mk hg1_1_
 clear hg1_1_
 have BK27 := Aside0.mk hg1_2_
 clear hg1_2_
 have HK := Aside0.mk (Kept.refl w (fun k_ => P0_ k_))
 have HW0 := Aside0.mk hB.size
 have HB := Aside0.mk hB
 clear hB
 have H : ((slices_IndexFunc_int_int_at_impl_Doc_conflicts_1.f k l0 a1_0_0 a1_0_1 a1_0_2 a1_1_0 a1_1_1 l1_1_2 l1_2_0).bind fun t453 => (if t453 = (-1) then (some l0) else (slices_DeleteFunc_int_int_at_impl_Doc_conflicts_1.l0 k l0 t453 (wrap64 (t453 + 1)) a1_0_0 a1_0_1 a1_0_2 l1_2_0 a1_1_0 a1_1_1 l1_1_2))) = some r := h
 clear h
 obtain ⟨t453, A3, H⟩ := Xbi H
 (try dsimp only at H)
 have HC4 := Aside0.mk H
 clear H
 obtain ⟨Ao5, co5, eo5⟩ := Kd.R_slice HO0.out
 subst eo5
 go_enter Tryz.func93, Tryz.ntmps93
 go_upto_if 12 with (first | ((with_reducible refine gate_callee (f := 148) rfl ?_); refine Xgo 10 Tryz.func148 #[.slice Ao5 l0.length co5, .func (.func 95) #[] #[.pointer (some ⟨g1_0_, 0, none⟩), .pointer (some ⟨g1_1_, 0, none⟩), .pointer (some ⟨g1_2_, 0, none⟩)]] ?_; (with_reducible refine (slices_IndexFunc_int_int_at_impl_Doc_conflicts_1.calls k _ _ l0 g1_0_ g1_1_ q1_1_ g1_2_ a1_0_0 a1_0_1 a1_0_2 a1_1_0 a1_1_1 A1_1_2 c1_1_2 l1_1_2 A1_2_0 c1_2_0 l1_2_0 t453 _ ?side1 ?side2 ?side3 ?side4 ?side5 ?side6 ?side7 ?side8 ?side9 ?side10 A3.out).mono ?_); (case side1 => repeat (first | exact (Kd.R_reads' HO0.out).2.2 | (with_reducible first | refine Kd.C_alloc ?_ _ | refine Kd.C_drewN ?_ _ | refine Kd.C_drew ?_))); (case side2 => exact (Kd.R_reads' HO0.out).2.1); (case side3 => exact BK25.out); (case side4 => exact BK56.out); (case side5 => exact BK26.out); (case side6 => exact BK27.out); (case side7 => exact Kd.C_kept_now HR1_1_2.out (by repeat first | (with_reducible first | exact HK.out | apply Kept.drewN | apply Kept.drew | refine Kept.setCell ?_ (.inr GW25.out) _ | refine Kept.setCell ?_ (.inr GW56.out) _ | refine Kept.setCell ?_ (.inr GW26.out) _ | refine Kept.setCell ?_ (.inr GW27.out) _) | exact HK.out)); (case side8 => exact HC1_1_2.out); (case side9 => exact Kd.C_kept_now HR1_2_0.out (by repeat first | (with_reducible first | exact HK.out | apply Kept.drewN | apply Kept.drew | refine Kept.setCell ?_ (.inr GW25.out) _ | refine Kept.setCell ?_ (.inr GW56.out) _ | refine Kept.setCell ?_ (.inr GW26.out) _ | refine Kept.setCell ?_ (.inr GW27.out) _) | exact HK.out)); (case side10 => exact HC1_2_0.out); rintro e w6 ⟨rfl, hb⟩; refine ⟨_, rfl, ?_⟩; replace HO0 := Aside0.mk (Kd.R_below (Xq HO0) hb); replace BK25 := Xbb BK25 hb; replace BK56 := Xbb BK56 hb; replace BK26 := Xbb BK26 hb; replace BK27 := Xbb BK27 hb; replace HK := Aside0.mk (Kept.below (S := (fun k_ => P0_ k_)) (by repeat first | (with_reducible first | exact HK.out | apply Kept.drewN | apply Kept.drew | refine Kept.setCell ?_ (.inr GW25.out) _ | refine Kept.setCell ?_ (.inr GW56.out) _ | refine Kept.setCell ?_ (.inr GW26.out) _ | refine Kept.setCell ?_ (.inr GW27.out) _) | exact HK.out) hb); replace HB := Aside0.mk (below_step Xi hb); clear hb))
 have H := HC4.out
 clear HC4
 obtain ⟨c7, H⟩ | ⟨c7, H⟩ := Xiu H
 ·have c7b0 : (t453 == (-1)) = true := beq_iff_eq.mpr c7
  have c7b1 : (t453 != (-1)) = false := bne_eq_false_iff_eq.mpr c7
  clear c7
  (first | rw [c7b0] | (simp only [i64_w, i32_w]; rw [c7b0]) | skip)
  obtain rfl := Option.some.inj H
  go_wp2
  go_ret
  exact ⟨_, Xe, Xq HO0, Xi, by repeat first | (with_reducible first | exact HK.out | apply Kept.drewN | apply Kept.drew | refine Kept.setCell ?_ (.inr GW25.out) _ | refine Kept.setCell ?_ (.inr GW56.out) _ | refine Kept.setCell ?_ (.inr GW26.out) _ | refine Kept.setCell ?_ (.inr GW27.out) _) | exact HK.out⟩
 ·have c7b0 : (t453 == (-1)) = false := beq_eq_false_iff_ne.mpr c7
  have c7b1 : (t453 != (-1)) = true := bne_iff_ne.mpr c7
  (first | rw [c7b0] | (simp only [i64_w, i32_w]; rw [c7b0]) | skip)
  have H' := Aside0.mk H
  clear H
  go_wp2
  go_loopg [5, 6] k (fun kq v5 v6 w' => ∃ (x0_1 : List Int) (x5_1 : Int) (x6_1 : Int), v5 = .int .i64 x5_1 ∧ v6 = .int .i64 x6_1 ∧ Aside0 (slices_DeleteFunc_int_int_at_impl_Doc_conflicts_1.l0 kq x0_1 x5_1 x6_1 a1_0_0 a1_0_1 a1_0_2 l1_2_0 a1_1_0 a1_1_1 l1_1_2 = some r) ∧ Aside0 (kq ≤ k) ∧ Aside0 (Kd.R (Kd.int .i64) 3 w' w0.heap.size (fun k_ => (P0_ k_ ∨ w.heap.size ≤ k_)) (.slice Ao5 l0.length co5) x0_1) ∧ Aside0 (w'.heap[g1_0_]? = some (.cells #[.int .i64 a1_0_0, .int .i64 a1_0_1, .int .i64 a1_0_2] 39 (0, 0))) ∧ Aside0 (w'.heap[q1_1_]? = some (.cells #[.int .i64 a1_1_0, .int .i64 a1_1_1, (.slice A1_1_2 l1_1_2.length c1_1_2)] 35 (0, 0))) ∧ Aside0 (w'.heap[g1_1_]? = some (.cells #[.pointer (some ⟨q1_1_, 0, none⟩)] 115 (0, 0))) ∧ Aside0 (w'.heap[g1_2_]? = some (.cells #[(.slice A1_2_0 l1_2_0.length c1_2_0)] 37 (0, 0))) ∧ Aside0 (Kept w w' (fun k_ => P0_ k_)) ∧ Aside0 (Below w0.heap.size w0 w'))
  case atStart => exact ⟨(l0), (t453), (wrap64 (t453 + 1)), Xr, Xr, H', Xkr, (Xp' HO0), BK25, BK56, BK26, BK27, ⟨by repeat first | (with_reducible first | exact HK.out | apply Kept.drewN | apply Kept.drew | refine Kept.setCell ?_ (.inr GW25.out) _ | refine Kept.setCell ?_ (.inr GW56.out) _ | refine Kept.setCell ?_ (.inr GW26.out) _ | refine Kept.setCell ?_ (.inr GW27.out) _) | exact HK.out⟩, ⟨Xi⟩⟩
  case round =>
   clear H'
   (try clear c7); (try clear c7b0); (try clear c7b1)
   obtain ⟨x0_1, x5_1, x6_1, rfl, rfl, HA, HK1, HO_0, BK25, BK56, BK26, BK27, HK, HB⟩ := hrel
   have hl0_1 := (Kd.R_reads' HO_0.out).1
   rw [hl0_1] at HO_0
   (try simp only [hl0_1])
   (try simp only [hl0_1] at BK25)
   (try simp only [hl0_1] at BK56)
   (try simp only [hl0_1] at BK26)
   (try simp only [hl0_1] at BK27)
   cases gk with
   | zero => cases HA.out
   | succ k1 =>
    have H := HA.out
    clear HA
    simp only [slices_DeleteFunc_int_int_at_impl_Doc_conflicts_1.l0] at H
    obtain ⟨c8b0, H⟩ | ⟨c8b0, H⟩ := Xit H
    ·obtain ⟨c9b0, H⟩ := Xid H
     obtain ⟨t455, A10, H⟩ := Xbi H
     (try dsimp only at H)
     have HC11 := Aside0.mk H
     clear H
     have p454 : 0 ≤ (x6_1 : Int) := of_decide_eq_true Xa
     have q454 : x6_1 < (x0_1.length : Int) := of_decide_eq_true Xa
     obtain ⟨ad454, e454, hx454_0⟩ := Kd.at_int (Kd.R_reads' HO_0.out).2.2 x6_1 p454 q454
     cases e454
     replace p454 := eq_true p454
     replace q454 := eq_true q454
     go_upto_if 29 with (first | (go_at_call 95; (with_reducible refine (impl_Doc_conflicts_1.calls k1 (rd x0_1 x6_1) g1_0_ a1_0_0 a1_0_1 a1_0_2 g1_1_ q1_1_ a1_1_0 a1_1_1 A1_1_2 c1_1_2 l1_1_2 g1_2_ A1_2_0 c1_2_0 l1_2_0 t455 _ ?side1 ?side2 ?side3 ?side4 ?side5 ?side6 ?side7 ?side8 A10.out).mono ?_); (case side1 => exact BK25.out); (case side2 => exact BK56.out); (case side3 => exact BK26.out); (case side4 => exact Kd.C_kept_now HR1_1_2.out (by repeat first | (with_reducible first | exact HK.out | apply Kept.drewN | apply Kept.drew | refine Kept.setCell ?_ (.inr GW25.out) _ | refine Kept.setCell ?_ (.inr GW56.out) _ | refine Kept.setCell ?_ (.inr GW26.out) _ | refine Kept.setCell ?_ (.inr GW27.out) _) | exact HK.out)); (case side5 => exact HC1_1_2.out); (case side6 => exact BK27.out); (case side7 => exact Kd.C_kept_now HR1_2_0.out (by repeat first | (with_reducible first | exact HK.out | apply Kept.drewN | apply Kept.drew | refine Kept.setCell ?_ (.inr GW25.out) _ | refine Kept.setCell ?_ (.inr GW56.out) _ | refine Kept.setCell ?_ (.inr GW26.out) _ | refine Kept.setCell ?_ (.inr GW27.out) _) | exact HK.out)); (case side8 => exact HC1_2_0.out); rintro e w12 ⟨rfl, hb⟩; replace HO_0 := Aside0.mk (Kd.R_below (Xq HO_0) hb); replace BK25 := Xbb BK25 hb; replace BK56 := Xbb BK56 hb; replace BK26 := Xbb BK26 hb; replace BK27 := Xbb BK27 hb; replace HK := Aside0.mk (Kept.below (S := (fun k_ => P0_ k_)) (by repeat first | (with_reducible first | exact HK.out | apply Kept.drewN | apply Kept.drew | refine Kept.setCell ?_ (.inr GW25.out) _ | refine Kept.setCell ?_ (.inr GW56.out) _ | refine Kept.setCell ?_ (.inr GW26.out) _ | refine Kept.setCell ?_ (.inr GW27.out) _) | exact HK.out) hb); replace HB := Aside0.mk (below_step Xi hb); clear hb))
     have H := HC11.out
     clear HC11
     by_cases c13 : t455 = true
     ·subst c13
      (first | rw [if_pos rfl] at H | skip)
      have H' := Aside0.mk H
      clear H
      go_wp2
      (try simp only [← hl0_1])
      go_roundg k1
      case measure => have := HK1.out; omega
      case rel => exact ⟨(x0_1), (x5_1), (wrap64 (x6_1 + 1)), Xr, Xr, H', Xk1, ⟨by (try simp only [hl0_1]); (with_reducible repeat (first | apply Kd.R_alloc | apply Kd.R_drewN | apply Kd.R_drew)); exact HO_0.out⟩, ⟨by (try simp only [hl0_1]); exact BK25.out⟩, ⟨by (try simp only [hl0_1]); exact BK56.out⟩, ⟨by (try simp only [hl0_1]); exact BK26.out⟩, ⟨by (try simp only [hl0_1]); exact BK27.out⟩, ⟨by repeat first | (with_reducible first | exact HK.out | apply Kept.drewN | apply Kept.drew | refine Kept.setCell ?_ (.inr GW25.out) _ | refine Kept.setCell ?_ (.inr GW56.out) _ | refine Kept.setCell ?_ (.inr GW26.out) _ | refine Kept.setCell ?_ (.inr GW27.out) _) | exact HK.out⟩, ⟨Xi⟩⟩
     ·replace c13 := Bool.eq_false_iff.mpr c13
      subst c13
      (first | rw [if_neg (show ¬ (false = true) by decide)] at H | skip)
      obtain ⟨c14b0, H⟩ := Xid H
      (first | rw [c14b0] | (simp only [i64_w, i32_w]; rw [c14b0]) | skip)
      obtain ⟨c15b0, H⟩ := Xid H
      obtain ⟨y456, hy456⟩ : ∃ y_ : List Int, y_ = (x0_1.set (x5_1 : Int).toNat (rd x0_1 x6_1)) := ⟨_, rfl⟩
      replace H : (slices_DeleteFunc_int_int_at_impl_Doc_conflicts_1.l0 k1 y456 (wrap64 (x5_1 + 1)) (wrap64 (x6_1 + 1)) a1_0_0 a1_0_1 a1_0_2 l1_2_0 a1_1_0 a1_1_1 l1_1_2) = some r := by first | (rw [hy456]; with_reducible exact H) | (have H2_ := (Option.bind_some _ _).symm.trans H; rw [hy456]; with_reducible exact H2_) | (have H2_ := (Option.bind_some _ _).symm.trans H; with_reducible exact H2_) | with_reducible exact H | (rw [hy456]; exact H) | exact H
      have Ny456 := Aside0.mk hy456
      clear hy456
      have H' := Aside0.mk H
      clear H
      have p16 : 0 ≤ (x5_1 : Int) := of_decide_eq_true Xa
      have q16 : (x5_1 : Int) < ((x0_1.length : Int) : Int) := of_decide_eq_true Xa
      obtain ⟨go16, co16, eo16, gb16, gl16, cl16, HG16⟩ := Kd.R_form HO_0.out (by omega)
      (first | cases eo16 | (injection eo16 with ea_ en_ ec_; (first | subst ea_ | (injection ea_ with ea_; subst ea_)); subst ec_; clear en_))
      have GB16 := Aside0.mk gb16
      have GG16 := Aside0.mk HG16
      clear gb16 gl16 HG16
      have HMgo16 := Aside0.mk (show (P0_ go16 ∨ w.heap.size ≤ go16) from (HO_0.out.1 _ rfl))
      (first | simp only [add_plain] at hx454_0 | skip)
      obtain ⟨hx16_0, hf16_0⟩ := Kd.R_celln 0 HO_0.out (x5_1 : Int) p16 q16
      replace p16 := eq_true p16
      replace q16 := eq_true q16
      have HP17 := Kd.R_putg HO_0.out (x5_1 : Int) (rd x0_1 x6_1)
      go_wp2_with (first | ((with_reducible refine gate_store (t := 3) (p := 33) rfl ?_); refine store_event (t := 3) (p := 33) (v := ?vo_w18) (w1 := (w12.setCell ⟨go16, (x5_1 : Int).toNat, none⟩ (.int .i64 (rd x0_1 x6_1)))) ?hg ?ho ?hn ?hr ?_; (case ho => rfl); (case hg => rfl); (case hn => rfl); (case hr => first | (go_simp; done) | (go_simp; rfl)); intro w18 hw; have hg : w12.grownBy w18 (some go16) := (by rw [hw]; exact HP17.2); have hp_ : Kd.R (Kd.int .i64) 3 w18 w0.heap.size (fun k_ => (P0_ k_ ∨ w.heap.size ≤ k_)) (.slice (some ⟨go16, 0, none⟩) x0_1.length co5) y456 := (by rw [hw, Ny456.out]; exact HP17.1); clear HP17; replace BK25 := Aside0.mk (blk_grown (g := g1_0_) (o := .cells #[.int .i64 a1_0_0, .int .i64 a1_0_1, .int .i64 a1_0_2] 39 (0, 0)) BK25.out hg (Kd.R_ne HO_0.out BK25.out (by decide))); replace BK56 := Aside0.mk (blk_grown (g := q1_1_) (o := .cells #[.int .i64 a1_1_0, .int .i64 a1_1_1, .slice A1_1_2 l1_1_2.length c1_1_2] 35 (0, 0)) BK56.out hg (Kd.R_ne HO_0.out BK56.out (by decide))); replace BK26 := Aside0.mk (blk_grown (g := g1_1_) (o := .cells #[.pointer (some ⟨q1_1_, 0, none⟩)] 115 (0, 0)) BK26.out hg (Kd.R_ne HO_0.out BK26.out (by decide))); replace BK27 := Aside0.mk (blk_grown (g := g1_2_) (o := .cells #[.slice A1_2_0 l1_2_0.length c1_2_0] 37 (0, 0)) BK27.out hg (Kd.R_ne HO_0.out BK27.out (by decide))); replace HB := Aside0.mk ((by rw [hw]; exact below_set (HB.out) GB16.out : Below w0.heap.size w0 w18)); replace HK := Aside0.mk (Kept.of_grown (S := (fun k_ => P0_ k_)) hg (by repeat first | (with_reducible first | exact HK.out | apply Kept.drewN | apply Kept.drew | refine Kept.setCell ?_ (.inr GW25.out) _ | refine Kept.setCell ?_ (.inr GW56.out) _ | refine Kept.setCell ?_ (.inr GW26.out) _ | refine Kept.setCell ?_ (.inr GW27.out) _) | exact HK.out) (fun k_ e_ => (HO_0.out.1 k_ e_))); replace HO_0 := Aside0.mk (hp_); clear hg hw hp_))
      (try simp only [← hl0_1])
      go_roundg k1
      case measure => have := HK1.out; omega
      case rel => exact ⟨(y456), (wrap64 (x5_1 + 1)), (wrap64 (x6_1 + 1)), Xr, Xr, H', Xk1, ⟨by (try simp only [hl0_1]); (with_reducible repeat (first | apply Kd.R_alloc | apply Kd.R_drewN | apply Kd.R_drew)); exact HO_0.out⟩, ⟨by (try simp only [hl0_1]); exact BK25.out⟩, ⟨by (try simp only [hl0_1]); exact BK56.out⟩, ⟨by (try simp only [hl0_1]); exact BK26.out⟩, ⟨by (try simp only [hl0_1]); exact BK27.out⟩, ⟨by repeat first | (with_reducible first | exact HK.out | apply Kept.drewN | apply Kept.drew | refine Kept.setCell ?_ (.inr GW25.out) _ | refine Kept.setCell ?_ (.inr GW56.out) _ | refine Kept.setCell ?_ (.inr GW26.out) _ | refine Kept.setCell ?_ (.inr GW27.out) _) | exact HK.out⟩, ⟨Xi⟩⟩
    ·obtain ⟨c19, H⟩ | ⟨c19, H⟩ := Xiu H
     ·have c19b0 := eq_true c19
      have c19b1 : decide (0 ≤ x5_1) = true := decide_eq_true c19
      clear c19
      obtain ⟨c20, H⟩ := Xif H
      have c20b0 := eq_true c20
      have c20b1 : decide (x5_1 ≤ (x0_1.length : Int)) = true := decide_eq_true c20
      clear c20
      obtain ⟨y457, hy457⟩ : ∃ y_ : List Int, y_ = (x0_1.drop (x5_1 : Int).toNat) := ⟨_, rfl⟩
      replace H : (some ((x0_1.take (x5_1 : Int).toNat ++ List.replicate (x0_1.length - (x5_1 : Int).toNat) 0).take (x5_1 : Int).toNat)) = some r := by first | (rw [hy457]; with_reducible exact H) | (have H2_ := (Option.bind_some _ _).symm.trans H; rw [hy457]; with_reducible exact H2_) | (have H2_ := (Option.bind_some _ _).symm.trans H; with_reducible exact H2_) | with_reducible exact H | (rw [hy457]; exact H) | exact H
      have Ny457 := Aside0.mk hy457
      clear hy457
      obtain ⟨y461, hy461⟩ : ∃ y_ : List Int, y_ = (x0_1.take (x5_1 : Int).toNat ++ List.replicate (x0_1.length - (x5_1 : Int).toNat) 0) := ⟨_, rfl⟩
      replace H : (some (y461.take (x5_1 : Int).toNat)) = some r := by first | (rw [hy461]; with_reducible exact H) | (have H2_ := (Option.bind_some _ _).symm.trans H; rw [hy461]; with_reducible exact H2_) | (have H2_ := (Option.bind_some _ _).symm.trans H; with_reducible exact H2_) | with_reducible exact H | (rw [hy461]; exact H) | exact H
      have Ny461 := Aside0.mk hy461
      clear hy461
      have c21b0 := eq_true (of_decide_eq_true Xa : x5_1 ≤ (x0_1.length : Int))
      obtain ⟨y462, hy462⟩ : ∃ y_ : List Int, y_ = (y461.take (x5_1 : Int).toNat) := ⟨_, rfl⟩
      replace H : (some y462) = some r := by first | (rw [hy462]; with_reducible exact H) | (have H2_ := (Option.bind_some _ _).symm.trans H; rw [hy462]; with_reducible exact H2_) | (have H2_ := (Option.bind_some _ _).symm.trans H; with_reducible exact H2_) | with_reducible exact H | (rw [hy462]; exact H) | exact H
      have Ny462 := Aside0.mk hy462
      clear hy462
      obtain rfl := Option.some.inj H
      have q22 : (x5_1 : Int) ≤ ((x0_1.length : Int) : Int) := of_decide_eq_true Xa
      obtain ⟨i022, hi022, _, hsz22, _⟩ := info_parts info3
      have hroom22 : x0_1.length ≤ co5 := (Kd.R_reads' HO_0.out).2.1
      have hC22 : Kd.C (Kd.int .i64) _ Ao5 x0_1.length x0_1 := (Kd.R_reads' HO_0.out).2.2
      have q022 : (0 : Int) ≤ (x5_1 : Int) := of_decide_eq_true Xa
      have hcut22 := cut_from (P := Tryz.prog) 30 3 .i64 Tryz.underlying30 hi022 1 hsz22 Ao5 x0_1.length co5 x5_1 q022 q22
      have hr22 := Kd.C_drop (m := (x5_1 : Int).toNat) (c := co5) hC22 (by omega) hroom22
      obtain ⟨A22, hA22⟩ : ∃ A1, A1 = (if co5 = (x5_1 : Int).toNat then Ao5 else (Ao5 : Option Addr).map (·.add ((x5_1 : Int).toNat * 1))) := ⟨_, rfl⟩
      obtain ⟨c22, hc22⟩ : ∃ c1, c1 = co5 - (x5_1 : Int).toNat := ⟨_, rfl⟩
      have hy22 : y457.length = x0_1.length - (x5_1 : Int).toNat := (by rw [Ny457.out, List.length_drop] <;> omega)
      rw [show (x0_1).drop (x5_1 : Int).toNat = y457 from Ny457.out.symm] at hr22
      replace hr22 : Kd.C (Kd.int .i64) _ A22 y457.length y457 := (by rw [hA22]; exact hr22)
      rw [← hy22, ← hA22, ← hc22] at hcut22
      have HR460 := Aside0.mk hr22
      have HC460 := Aside0.mk (show y457.length ≤ c22 from by rw [hy22, hc22]; exact Nat.sub_le_sub_right hroom22 _)
      clear hr22 hC22 hroom22 hi022 hsz22 hc22
      have KY22 := Aside0.mk hy22
      have KA22 := Aside0.mk hA22
      clear hy22 hA22
      have KL22 := Aside0.mk (show (x5_1 : Int).toNat ≤ x0_1.length from by omega)
      replace q22 := eq_true q22
      go_wp2_with (first | ((with_reducible refine gate_builtin (b := .clear) (xs := #[.tmp 38]) rfl ?_); refine XW.R_clear (Kd.int .i64) (w0 := w0) w0.heap.size rfl (.tmp 38) 30 3 rfl Tryz.underlying30 (.int .i64 0) 8 info3 rfl (by decide) 0 (fun _ => rfl) (A0 := Ao5) (n := x0_1.length) (c := co5) (N := (x5_1 : Int).toNat) rfl ?hA ?hm (Xq HO_0) ?hN Xi (below_size Xi) ?_; (case hA => exact KA22.out); (case hm => exact KY22.out); (case hN => exact KL22.out); intro w23 ho hb hg; rw [← Ny461.out] at ho; replace BK25 := Aside0.mk (blk_grown (g := g1_0_) (o := .cells #[.int .i64 a1_0_0, .int .i64 a1_0_1, .int .i64 a1_0_2] 39 (0, 0)) BK25.out hg (Kd.R_ne HO_0.out BK25.out (by decide))); replace BK56 := Aside0.mk (blk_grown (g := q1_1_) (o := .cells #[.int .i64 a1_1_0, .int .i64 a1_1_1, .slice A1_1_2 l1_1_2.length c1_1_2] 35 (0, 0)) BK56.out hg (Kd.R_ne HO_0.out BK56.out (by decide))); replace BK26 := Aside0.mk (blk_grown (g := g1_1_) (o := .cells #[.pointer (some ⟨q1_1_, 0, none⟩)] 115 (0, 0)) BK26.out hg (Kd.R_ne HO_0.out BK26.out (by decide))); replace BK27 := Aside0.mk (blk_grown (g := g1_2_) (o := .cells #[.slice A1_2_0 l1_2_0.length c1_2_0] 37 (0, 0)) BK27.out hg (Kd.R_ne HO_0.out BK27.out (by decide))); replace HB := Aside0.mk (hb); replace HK := Aside0.mk (Kept.of_grown (S := (fun k_ => P0_ k_)) hg (by repeat first | (with_reducible first | exact HK.out | apply Kept.drewN | apply Kept.drew | refine Kept.setCell ?_ (.inr GW25.out) _ | refine Kept.setCell ?_ (.inr GW56.out) _ | refine Kept.setCell ?_ (.inr GW26.out) _ | refine Kept.setCell ?_ (.inr GW27.out) _) | exact HK.out) (fun k_ e_ => (HO_0.out.1 k_ e_))); replace HO_0 := Aside0.mk (ho); clear ho hb hg; have q24 : (x5_1 : Int) ≤ ((x0_1.length : Int) : Int) := of_decide_eq_true Xa; obtain ⟨i024, hi024, _, hsz24, _⟩ := info_parts info3; have hcut24 := cut_to (P := Tryz.prog) 30 3 .i64 Tryz.underlying30 hi024 Ao5 x0_1.length co5 x5_1 (of_decide_eq_true Xa) q24 (Kd.R_reads' HO_0.out).2.1; have hr24 := Kd.R_take (m := (x5_1 : Int).toNat) HO_0.out (by have hlx_ := (Kd.R_reads' HO_0.out).1; omega); have hy24 : y462.length = (x5_1 : Int).toNat := (by have hlx_ := (Kd.R_reads' HO_0.out).1; rw [Ny462.out, List.length_take]; omega); rw [← Ny462.out] at hr24; rw [← hy24] at hr24 hcut24; clear hy24 hi024 hsz24 HO_0; have HO464 := Aside0.mk hr24; clear hr24; replace q24 := eq_true q24))
      go_ret
      exact ⟨_, Xe, Xq HO464, Xi, by repeat first | (with_reducible first | exact HK.out | apply Kept.drewN | apply Kept.drew | refine Kept.setCell ?_ (.inr GW25.out) _ | refine Kept.setCell ?_ (.inr GW56.out) _ | refine Kept.setCell ?_ (.inr GW26.out) _ | refine Kept.setCell ?_ (.inr GW27.out) _) | exact HK.out⟩
     ·exact absurd H (by simp)

/-! ### impl_Doc_conflicts: function 50 -/
def impl_Doc_conflicts.f (k : Nat) (a0_0 : Int) (a0_1 : Int) (l0_2 : List (S113)) (l1 : List (S39)) (a2_0 : Int) (a2_1 : Int) (a2_2 : Int) : Option (List Int) := (impl_sessionsOf.f k l1).bind fun t468 => ((slices_DeleteFunc_int_int_at_impl_Doc_conflicts_1.f k t468 a2_0 a2_1 a2_2 a0_0 a0_1 l0_2 l1).bind fun t471 => (some t471))
set_option maxHeartbeats 8000000 in
set_option maxRecDepth 100000 in
theorem impl_Doc_conflicts.calls (k : Nat) (g0_ : Nat) (a0_0 : Int) (a0_1 : Int) (A0_2 : Option Addr) (c0_2 : Nat) (l0_2 : List (S113)) (A1 : Option Addr) (c1 : Nat) (l1 : List (S39)) (a2_0 : Int) (a2_1 : Int) (a2_2 : Int) (r : List Int) (w : World) (hg0_ : w.heap[g0_]? = some (.cells #[.int .i64 a0_0, .int .i64 a0_1, .slice A0_2 l0_2.length c0_2] 35 (0, 0))) (hr0_2 : Kd.C k113 w A0_2 l0_2.length l0_2) (hc0_2 : l0_2.length ≤ c0_2) (hr1 : Kd.C k39 w A1 l1.length l1) (hc1 : l1.length ≤ c1) (h : impl_Doc_conflicts.f k a0_0 a0_1 l0_2 l1 a2_0 a2_1 a2_2 = some r) :
  Calls Tryz.prog 50 #[.pointer (some ⟨g0_, 0, none⟩), .slice A1 l1.length c1, .agg #[.int .i64 a2_0, .int .i64 a2_1, .int .i64 a2_2]] w fun e w' => ∃ v0_ : Value, e = .returned (v0_) ∧ Kd.R (Kd.int .i64) 3 w' w.heap.size (fun _ => True) v0_ r ∧ Below w.heap.size w w' := by
 have hu39 := Tryz.underlying39
 have HR0_2 := Aside0.mk hr0_2
 have HC0_2 := Aside0.mk hc0_2
 clear hr0_2 hc0_2
 have HR1 := Aside0.mk hr1
 have HC1 := Aside0.mk hc1
 clear hr1 hc1
 have BK0 := Aside0.mk hg0_
 clear hg0_
 have HB := Aside0.mk (Below.refl w.heap.size w)
 have H : ((impl_sessionsOf.f k l1).bind fun t468 => ((slices_DeleteFunc_int_int_at_impl_Doc_conflicts_1.f k t468 a2_0 a2_1 a2_2 a0_0 a0_1 l0_2 l1).bind fun t471 => (some t471))) = some r := h
 clear h
 obtain ⟨t468, A4, H⟩ := Xbi H
 (try dsimp only at H)
 obtain ⟨t471, A5, H⟩ := Xbi H
 (try dsimp only at H)
 obtain rfl := Option.some.inj H
 go_enter Tryz.func50, Tryz.ntmps50
 go_wp2_with (first | ((with_reducible refine gate_dst (N := 3) rfl ?_); refine Xbox 3 #[.pointer (some ⟨g0_, 0, none⟩)] 115 ?_; intro gb465 hg w6 hbox hb; have BK465 := Aside0.mk (hbox); have GE465 := Xge hg Xi; replace HB := Aside0.mk (below_step Xi hb); have NB0_465 := Xnb hg BK0; have NB465_0 := Xns NB0_465; replace BK0 := Xbb BK0 hb; clear hb hbox hg) | ((with_reducible refine gate_dst (N := 4) rfl ?_); refine Xbox 4 #[.slice A1 l1.length c1] 37 ?_; intro gb466 hg w7 hbox hb; have BK466 := Aside0.mk (hbox); have GE466 := Xge hg Xi; replace HB := Aside0.mk (below_step Xi hb); have NB0_466 := Xnb hg BK0; have NB466_0 := Xns NB0_466; replace BK0 := Xbb BK0 hb; have NB465_466 := Xnb hg BK465; have NB466_465 := Xns NB465_466; replace BK465 := Xbb BK465 hb; clear hb hbox hg) | ((with_reducible refine gate_dst (N := 5) rfl ?_); refine Xbox 5 #[.int .i64 a2_0, .int .i64 a2_1, .int .i64 a2_2] 39 ?_; intro gb467 hg w8 hbox hb; have BK467 := Aside0.mk (hbox); have GE467 := Xge hg Xi; replace HB := Aside0.mk (below_step Xi hb); have NB0_467 := Xnb hg BK0; have NB467_0 := Xns NB0_467; replace BK0 := Xbb BK0 hb; have NB465_467 := Xnb hg BK465; have NB467_465 := Xns NB465_467; replace BK465 := Xbb BK465 hb; have NB466_467 := Xnb hg BK466; have NB467_466 := Xns NB466_467; replace BK466 := Xbb BK466 hb; clear hb hbox hg; have hnb9 := NB466_0.out; have hnc9 := NB0_466.out; have hnb10 := NB466_465.out; have hnc10 := NB465_466.out; have hnb11 := NB466_467.out; have hnc11 := NB467_466.out; have hcz12_0 := (blk_cell BK466.out 0).trans XW.i0) | ((with_reducible refine gate_callee (f := 94) rfl ?_); refine Xgo 8 Tryz.func94 #[.slice A1 l1.length c1] ?_; (with_reducible refine (impl_sessionsOf.calls k _ _ l1 t468 _ ?side1 ?side2 A4.out).mono ?_); (case side1 => exact Xc HR1); (case side2 => exact HC1.out); rintro e w13 ⟨v469, rfl, ho0, hb⟩; refine ⟨_, rfl, ?_⟩; have HO470 := Aside0.mk (Kd.R_lower ho0 (below_size Xi)); replace BK0 := Xbb BK0 hb; replace BK465 := Xbb BK465 hb; replace BK466 := Xbb BK466 hb; replace BK467 := Xbb BK467 hb; replace HB := Aside0.mk (below_step Xi hb); clear hb; (try clear ho0); obtain ⟨Ao14, co14, eo14⟩ := Kd.R_slice HO470.out; subst eo14) | ((with_reducible refine gate_callee (f := 93) rfl ?_); refine Xgo 10 Tryz.func93 #[.slice Ao14 t468.length co14, .func (.func 95) #[] #[.pointer (some ⟨gb467, 0, none⟩), .pointer (some ⟨gb465, 0, none⟩), .pointer (some ⟨gb466, 0, none⟩)]] ?_; (with_reducible refine (slices_DeleteFunc_int_int_at_impl_Doc_conflicts_1.calls k (fun k_ => some k_ = (.slice Ao14 t468.length co14 : Value).ownBlock) (.slice Ao14 t468.length co14) t468 gb467 gb465 g0_ gb466 a2_0 a2_1 a2_2 a0_0 a0_1 A0_2 c0_2 l0_2 A1 c1 l1 t471 w _ ?side1 ?side2 ?side3 ?side4 ?side5 ?side6 ?side7 ?side8 ?side9 ?side10 A5.out).mono ?_); (case side1 => exact Xi); (case side2 => exact Kd.R_tight rfl HO470.out); (case side3 => exact BK467.out); (case side4 => exact BK0.out); (case side5 => exact BK465.out); (case side6 => exact BK466.out); (case side7 => exact Kd.C_kept_came k113_heap HR0_2.out Xi (fun k_ hs_ => (fun e_ => Kd.R_base HO470.out k_ e_.symm) hs_)); (case side8 => exact HC0_2.out); (case side9 => exact Kd.C_kept_came k39_heap HR1.out Xi (fun k_ hs_ => (fun e_ => Kd.R_base HO470.out k_ e_.symm) hs_)); (case side10 => exact HC1.out); rintro e w15 ⟨v472, rfl, ho0, hb, hkp⟩; refine ⟨_, rfl, ?_⟩; replace BK0 := Aside0.mk (blk_kept BK0.out hkp (fun hs_ => (fun e_ => (Kd.R_ne HO470.out BK0.out (by decide)) e_) hs_)); replace BK465 := Aside0.mk (blk_kept BK465.out hkp (fun hs_ => (fun e_ => (Kd.R_ne HO470.out BK465.out (by decide)) e_) hs_)); replace BK466 := Aside0.mk (blk_kept BK466.out hkp (fun hs_ => (fun e_ => (Kd.R_ne HO470.out BK466.out (by decide)) e_) hs_)); replace BK467 := Aside0.mk (blk_kept BK467.out hkp (fun hs_ => (fun e_ => (Kd.R_ne HO470.out BK467.out (by decide)) e_) hs_)); have HO473 := Aside0.mk (Kd.R_mono (ok' := fun k_ => True) ho0 (fun k_ hk_ => trivial)); replace HB := Aside0.mk (hb); clear HO470; (try clear hb); (try clear hkp); (try clear ho0)))
 go_ret
 exact ⟨_, Xe, Xq HO473, Xi⟩

/-! ### impl_ConflictsOf: function 13 -/
def impl_ConflictsOf.f (k : Nat) (a0_0 : Int) (a0_1 : Int) (l0_2 : List (S113)) (l1 : List (S39)) (a2_0 : Int) (a2_1 : Int) (a2_2 : Int) : Option (List Int × Int) := (impl_holdCode.f k a0_0 a0_1 l0_2 l1 a2_0 a2_1 a2_2).bind fun t476 => (if t476 = 0 then ((impl_Doc_conflicts.f k a0_0 a0_1 l0_2 l1 a2_0 a2_1 a2_2).bind fun t477 => (some (t477, 0))) else (some (([] : List Int), t476)))
set_option maxHeartbeats 8000000 in
set_option maxRecDepth 100000 in
theorem impl_ConflictsOf.calls (k : Nat) (a0_0 : Int) (a0_1 : Int) (A0_2 : Option Addr) (c0_2 : Nat) (l0_2 : List (S113)) (A1 : Option Addr) (c1 : Nat) (l1 : List (S39)) (a2_0 : Int) (a2_1 : Int) (a2_2 : Int) (r1 : List Int) (r2 : Int) (w : World) (hr0_2 : Kd.C k113 w A0_2 l0_2.length l0_2) (hc0_2 : l0_2.length ≤ c0_2) (hr1 : Kd.C k39 w A1 l1.length l1) (hc1 : l1.length ≤ c1) (h : impl_ConflictsOf.f k a0_0 a0_1 l0_2 l1 a2_0 a2_1 a2_2 = some (r1, r2)) :
  Calls Tryz.prog 13 #[.agg #[.int .i64 a0_0, .int .i64 a0_1, .slice A0_2 l0_2.length c0_2], .slice A1 l1.length c1, .agg #[.int .i64 a2_0, .int .i64 a2_1, .int .i64 a2_2]] w fun e w' => ∃ v0_ : Value, e = .returned (.tuple #[v0_, .int .i64 r2]) ∧ Kd.R (Kd.int .i64) 3 w' w.heap.size (fun _ => True) v0_ r1 ∧ Below w.heap.size w w' := by
 have hu35 := Tryz.underlying35
 have hu39 := Tryz.underlying39
 have HR0_2 := Aside0.mk hr0_2
 have HC0_2 := Aside0.mk hc0_2
 clear hr0_2 hc0_2
 have HR1 := Aside0.mk hr1
 have HC1 := Aside0.mk hc1
 clear hr1 hc1
 have HB := Aside0.mk (Below.refl w.heap.size w)
 have H : ((impl_holdCode.f k a0_0 a0_1 l0_2 l1 a2_0 a2_1 a2_2).bind fun t476 => (if t476 = 0 then ((impl_Doc_conflicts.f k a0_0 a0_1 l0_2 l1 a2_0 a2_1 a2_2).bind fun t477 => (some (t477, 0))) else (some (([] : List Int), t476)))) = some (r1, r2) := h
 clear h
 obtain ⟨t476, A4, H⟩ := Xbi H
 (try dsimp only at H)
 have HC5 := Aside0.mk H
 clear H
 go_enter Tryz.func13, Tryz.ntmps13
 go_upto_if 14 with (first | ((with_reducible refine gate_dst (N := 3) rfl ?_); refine Xbox 3 #[.int .i64 a0_0, .int .i64 a0_1, .slice A0_2 l0_2.length c0_2] 35 ?_; intro gb474 hg w6 hbox hb; have BK474 := Aside0.mk (hbox); have GE474 := Xge hg Xi; replace HB := Aside0.mk (below_step Xi hb); clear hb hbox hg) | ((with_reducible refine gate_dst (N := 5) rfl ?_); refine Xbox 5 #[.int .i64 a2_0, .int .i64 a2_1, .int .i64 a2_2] 39 ?_; intro gb475 hg w7 hbox hb; have BK475 := Aside0.mk (hbox); have GE475 := Xge hg Xi; replace HB := Aside0.mk (below_step Xi hb); have NB474_475 := Xnb hg BK474; have NB475_474 := Xns NB474_475; replace BK474 := Xbb BK474 hb; clear hb hbox hg; have hnb8 := NB474_475.out; have hnc8 := NB475_474.out; obtain ⟨hcz9_0, hcz9_1, hcz9_2⟩ := Xc3 BK474; obtain ⟨hcz10_0, hcz10_1, hcz10_2⟩ := Xc3 BK475) | ((with_reducible refine gate_callee (f := 49) rfl ?_); refine Xgo 12 Tryz.func49 #[.agg #[.int .i64 a0_0, .int .i64 a0_1, .slice A0_2 l0_2.length c0_2], .slice A1 l1.length c1, .agg #[.int .i64 a2_0, .int .i64 a2_1, .int .i64 a2_2]] ?_; (with_reducible refine (impl_holdCode.calls k a0_0 a0_1 _ _ l0_2 _ _ l1 a2_0 a2_1 a2_2 t476 _ ?side1 ?side2 ?side3 ?side4 A4.out).mono ?_); (case side1 => exact Xc HR0_2); (case side2 => exact HC0_2.out); (case side3 => exact Xc HR1); (case side4 => exact HC1.out); rintro e w11 ⟨rfl, hb⟩; refine ⟨_, rfl, ?_⟩; replace BK474 := Xbb BK474 hb; replace BK475 := Xbb BK475 hb; replace HB := Aside0.mk (below_step Xi hb); clear hb))
 have H := HC5.out
 clear HC5
 obtain ⟨c12, H⟩ | ⟨c12, H⟩ := Xiu H
 ·have c12b0 : (t476 == 0) = true := beq_iff_eq.mpr c12
  have c12b1 : (t476 != 0) = false := bne_eq_false_iff_eq.mpr c12
  clear c12
  (first | rw [c12b0] | (simp only [i64_w, i32_w]; rw [c12b0]) | skip)
  obtain ⟨t477, A13, H⟩ := Xbi H
  (try dsimp only at H)
  simp only [Option.some.injEq, Prod.mk.injEq] at H
  obtain ⟨rfl, rfl⟩ := H
  have hnb14 := NB475_474.out
  have hnc14 := NB474_475.out
  obtain ⟨hcz15_0, hcz15_1, hcz15_2⟩ := Xc3 BK475
  go_wp2_with (first | ((with_reducible refine gate_callee (f := 50) rfl ?_); refine Xgo 18 Tryz.func50 #[.pointer (some ⟨gb474, 0, none⟩), .slice A1 l1.length c1, .agg #[.int .i64 a2_0, .int .i64 a2_1, .int .i64 a2_2]] ?_; (with_reducible refine (impl_Doc_conflicts.calls k gb474 a0_0 a0_1 A0_2 c0_2 l0_2 _ _ l1 a2_0 a2_1 a2_2 t477 _ ?side1 ?side2 ?side3 ?side4 ?side5 A13.out).mono ?_); (case side1 => exact BK474.out); (case side2 => exact Xc HR0_2); (case side3 => exact HC0_2.out); (case side4 => exact Xc HR1); (case side5 => exact HC1.out); rintro e w16 ⟨v478, rfl, ho0, hb⟩; refine ⟨_, rfl, ?_⟩; have HO479 := Aside0.mk (Kd.R_lower ho0 (below_size Xi)); replace BK474 := Xbb BK474 hb; replace BK475 := Xbb BK475 hb; replace HB := Aside0.mk (below_step Xi hb); clear hb; (try clear ho0)))
  go_ret2
  exact ⟨_, Xe, Xq HO479, Xi⟩
 ·have c12b0 : (t476 == 0) = false := beq_eq_false_iff_ne.mpr c12
  have c12b1 : (t476 != 0) = true := bne_iff_ne.mpr c12
  (first | rw [c12b0] | (simp only [i64_w, i32_w]; rw [c12b0]) | skip)
  simp only [Option.some.injEq, Prod.mk.injEq] at H
  obtain ⟨rfl, rfl⟩ := H
  go_wp2
  go_ret2
  exact ⟨_, Xe, by first | exact Kd.R_nil _ _ _ _ _ | exact Kd.N_nil _ _ _ _ _ | exact Kd.V_nil _ _ _ _ _ | exact Kd.Q_nil _ _ _ _ _ | exact Kd.S_nil _ _ _ _ _, Xi⟩

/-! ### laws_eqIntS: function 14 -/
def laws_eqIntS.l0 : Nat → List Int → List Int → Int → Option (Bool)
 | 0, _, _, _ => none
 | k + 1, x0, x1, x5 => if x5 < (x0.length : Int) then (if 0 ≤ x5 then (if x5 < (x1.length : Int) then (if (rd x0 x5) = (rd x1 x5) then (laws_eqIntS.l0 k x0 x1 (wrap64 (x5 + 1))) else (some false)) else (none)) else (none)) else (some true)
def laws_eqIntS.f (k : Nat) (l0 : List Int) (l1 : List Int) : Option (Bool) := if (l0.length : Int) = (l1.length : Int) then (laws_eqIntS.l0 k l0 l1 0) else (some false)
set_option maxHeartbeats 8000000 in
set_option maxRecDepth 100000 in
theorem laws_eqIntS.calls (k : Nat) (A0 : Option Addr) (c0 : Nat) (l0 : List Int) (A1 : Option Addr) (c1 : Nat) (l1 : List Int) (r : Bool) (w : World) (hr0 : Kd.C (Kd.int .i64) w A0 l0.length l0) (hc0 : l0.length ≤ c0) (hr1 : Kd.C (Kd.int .i64) w A1 l1.length l1) (hc1 : l1.length ≤ c1) (h : laws_eqIntS.f k l0 l1 = some r) :
  Calls Tryz.prog 14 #[.slice A0 l0.length c0, .slice A1 l1.length c1] w fun e w' => e = .returned (.bool r) ∧ Drawn0 w w' := by
 have HR0 := Aside0.mk hr0
 have HC0 := Aside0.mk hc0
 clear hr0 hc0
 have HR1 := Aside0.mk hr1
 have HC1 := Aside0.mk hc1
 clear hr1 hc1
 have H : (if (l0.length : Int) = (l1.length : Int) then (laws_eqIntS.l0 k l0 l1 0) else (some false)) = some r := h
 clear h
 obtain ⟨c3, H⟩ | ⟨c3, H⟩ := Xiu H
 ·have c3b0 : ((l0.length : Int) == (l1.length : Int)) = true := beq_iff_eq.mpr c3
  have c3b1 : ((l0.length : Int) != (l1.length : Int)) = false := bne_eq_false_iff_eq.mpr c3
  have c3b2 : (l0.length == l1.length) = true := by first | simpa using c3 | (simp at c3 ⊢; omega)
  clear c3
  have H' := Aside0.mk H
  clear H
  go_enter Tryz.func14, Tryz.ntmps14
  go_wp2
  repeat (go_quiet (fail); try go_wp2)
  go_loopg [5] k (fun kq v5 w' => ∃ (x5_1 : Int), v5 = .int .i64 x5_1 ∧ Aside0 (laws_eqIntS.l0 kq l0 l1 x5_1 = some r) ∧ Aside0 (kq ≤ k) ∧ Drawn0 w w')
  case atStart => exact ⟨(0), Xr, H', Xkr, by repeat (first | exact Drawn0.refl _ | apply Drawn0.step)⟩
  case round =>
   clear H'
   (try clear c1); (try clear c3); (try clear c3b0); (try clear c3b1); (try clear c3b2)
   obtain ⟨x5_1, rfl, HA, HK1, ⟨m1, rfl⟩⟩ := hrel
   cases gk with
   | zero => cases HA.out
   | succ k1 =>
    have H := HA.out
    clear HA
    simp only [laws_eqIntS.l0] at H
    obtain ⟨c4b0, H⟩ | ⟨c4b0, H⟩ := Xit H
    ·obtain ⟨c5b0, H⟩ := Xid H
     obtain ⟨c6b0, H⟩ := Xid H
     obtain ⟨c7, H⟩ | ⟨c7, H⟩ := Xiu H
     ·have c7b0 : ((rd l0 x5_1) == (rd l1 x5_1)) = true := beq_iff_eq.mpr c7
      have c7b1 : ((rd l0 x5_1) != (rd l1 x5_1)) = false := bne_eq_false_iff_eq.mpr c7
      clear c7
      have H' := Aside0.mk H
      clear H
      have p480 : 0 ≤ (x5_1 : Int) := of_decide_eq_true Xa
      have q480 : x5_1 < (l0.length : Int) := of_decide_eq_true Xa
      obtain ⟨ad480, e480, hx480_0⟩ := Kd.at_int HR0.out x5_1 p480 q480
      cases e480
      replace p480 := eq_true p480
      replace q480 := eq_true q480
      have p481 : 0 ≤ (x5_1 : Int) := of_decide_eq_true Xa
      have q481 : x5_1 < (l1.length : Int) := of_decide_eq_true Xa
      obtain ⟨ad481, e481, hx481_0⟩ := Kd.at_int HR1.out x5_1 p481 q481
      cases e481
      replace p481 := eq_true p481
      replace q481 := eq_true q481
      go_wp2
      repeat (go_quiet (fail); try go_wp2)
      go_roundg k1
      case measure => have := HK1.out; omega
      case rel => exact ⟨(wrap64 (x5_1 + 1)), Xr, H', Xk1, by repeat (first | exact Drawn0.refl _ | apply Drawn0.step)⟩
     ·have c7b0 : ((rd l0 x5_1) == (rd l1 x5_1)) = false := beq_eq_false_iff_ne.mpr c7
      have c7b1 : ((rd l0 x5_1) != (rd l1 x5_1)) = true := bne_iff_ne.mpr c7
      obtain rfl := Option.some.inj H
      have p480 : 0 ≤ (x5_1 : Int) := of_decide_eq_true Xa
      have q480 : x5_1 < (l0.length : Int) := of_decide_eq_true Xa
      obtain ⟨ad480, e480, hx480_0⟩ := Kd.at_int HR0.out x5_1 p480 q480
      cases e480
      replace p480 := eq_true p480
      replace q480 := eq_true q480
      have p481 : 0 ≤ (x5_1 : Int) := of_decide_eq_true Xa
      have q481 : x5_1 < (l1.length : Int) := of_decide_eq_true Xa
      obtain ⟨ad481, e481, hx481_0⟩ := Kd.at_int HR1.out x5_1 p481 q481
      cases e481
      replace p481 := eq_true p481
      replace q481 := eq_true q481
      go_wp2
      repeat (go_quiet (fail); try go_wp2)
      go_ret
      exact ⟨Xr, Xdr⟩
    ·obtain rfl := Option.some.inj H
     go_wp2
     repeat (go_quiet (fail); try go_wp2)
     go_ret
     exact ⟨Xr, Xdr⟩
 ·have c3b0 : ((l0.length : Int) == (l1.length : Int)) = false := beq_eq_false_iff_ne.mpr c3
  have c3b1 : ((l0.length : Int) != (l1.length : Int)) = true := bne_iff_ne.mpr c3
  have c3b2 : (l0.length == l1.length) = false := by first | simpa using c3 | (simp at c3 ⊢; omega)
  obtain rfl := Option.some.inj H
  go_enter Tryz.func14, Tryz.ntmps14
  go_wp2
  repeat (go_quiet (fail); try go_wp2)
  go_ret
  exact ⟨Xr, Xdr⟩

end Go.Proofs.YtahhgjkgfbppeaaGreat.XA
