/- Words and contracts of this claim. Conditions: each theorem's own premises. -/
import Derived.Test.YtahhgjkgfbppeaaGreatZ1
import Derived.Test.YtahhgjkgfbppeaaGreatZ7
import Derived.Test.YtahhgjkgfbppeaaGreatZ6
namespace Go.Proofs.YtahhgjkgfbppeaaGreat.XA
open Go.RowKit Go.Proofs.YtahhgjkgfbppeaaGreatW.PrintWords Go.Proofs.YtahhgjkgfbppeaaGreatW.PrintLast Go.Proofs.YtahhgjkgfbppeaaGreatW.PrintMore XW
attribute [local go_sem] max2_int min2_int max_two min_two max_three min_three max_four min_four   -- for this text's walks alone
set_option linter.unusedVariables false
set_option linter.unusedSimpArgs false
set_option maxHeartbeats 8000000
set_option maxRecDepth 100000
def slices_IndexFunc_int_int_at_impl_Doc_rival_1.l0 : Nat → List Int → Int → Int → List Int → List (S39) → Int → Int → Int → Int → Int → Int → Int → Int → List (S113) → Option (Int)
 | 0, _, _, _, _, _, _, _, _, _, _, _, _, _, _ => none
 | k + 1, x0, x7, x8, x26000, x28000, x29000, x29001, x29002, x30000, x30001, x30002, x57000, x57001, x57002 => if x8 < x7 then (if 0 ≤ x8 then (if x8 < (x0.length : Int) then ((impl_Doc_rival_1.f k (rd x0 x8) x26000 x57000 x57001 x57002 x28000 x29000 x29001 x29002 x30000 x30001 x30002).bind fun t596 => (if t596 = true then (some x8) else (slices_IndexFunc_int_int_at_impl_Doc_rival_1.l0 k x0 x7 (wrap64 (x8 + 1)) x26000 x28000 x29000 x29001 x29002 x30000 x30001 x30002 x57000 x57001 x57002))) else (none)) else (none)) else (some (-1))
def slices_IndexFunc_int_int_at_impl_Doc_rival_1.f (k : Nat) (l0 : List Int) (l1_0_0 : List Int) (a1_1_0 : Int) (a1_1_1 : Int) (l1_1_2 : List (S113)) (l1_2_0 : List (S39)) (a1_3_0 : Int) (a1_3_1 : Int) (a1_3_2 : Int) (a1_4_0 : Int) (a1_4_1 : Int) (a1_4_2 : Int) : Option (Int) := slices_IndexFunc_int_int_at_impl_Doc_rival_1.l0 k l0 (l0.length : Int) 0 l1_0_0 l1_2_0 a1_3_0 a1_3_1 a1_3_2 a1_4_0 a1_4_1 a1_4_2 a1_1_0 a1_1_1 l1_1_2
theorem slices_IndexFunc_int_int_at_impl_Doc_rival_1.calls (k : Nat) (A0 : Option Addr) (c0 : Nat) (l0 : List Int) (g1_0_ : Nat) (g1_1_ : Nat) (q1_1_ : Nat) (g1_2_ : Nat) (g1_3_ : Nat) (g1_4_ : Nat) (A1_0_0 : Option Addr) (c1_0_0 : Nat) (l1_0_0 : List Int) (a1_1_0 : Int) (a1_1_1 : Int) (A1_1_2 : Option Addr) (c1_1_2 : Nat) (l1_1_2 : List (S113)) (A1_2_0 : Option Addr) (c1_2_0 : Nat) (l1_2_0 : List (S39)) (a1_3_0 : Int) (a1_3_1 : Int) (a1_3_2 : Int) (a1_4_0 : Int) (a1_4_1 : Int) (a1_4_2 : Int) (r : Int) (w : World) (hr0 : Kd.C (Kd.int .i64) w A0 l0.length l0) (hc0 : l0.length ≤ c0) (hg1_0_ : w.heap[g1_0_]? = some (.cells #[.slice A1_0_0 l1_0_0.length c1_0_0] 30 (0, 0))) (hq1_1_ : w.heap[q1_1_]? = some (.cells #[.int .i64 a1_1_0, .int .i64 a1_1_1, .slice A1_1_2 l1_1_2.length c1_1_2] 35 (0, 0))) (hg1_1_ : w.heap[g1_1_]? = some (.cells #[.pointer (some ⟨q1_1_, 0, none⟩)] 115 (0, 0))) (hg1_2_ : w.heap[g1_2_]? = some (.cells #[.slice A1_2_0 l1_2_0.length c1_2_0] 37 (0, 0))) (hg1_3_ : w.heap[g1_3_]? = some (.cells #[.int .i64 a1_3_0, .int .i64 a1_3_1, .int .i64 a1_3_2] 39 (0, 0))) (hg1_4_ : w.heap[g1_4_]? = some (.cells #[.int .i64 a1_4_0, .int .i64 a1_4_1, .int .i64 a1_4_2] 39 (0, 0))) (hr1_0_0 : Kd.C (Kd.int .i64) w A1_0_0 l1_0_0.length l1_0_0) (hc1_0_0 : l1_0_0.length ≤ c1_0_0) (hr1_1_2 : Kd.C k113 w A1_1_2 l1_1_2.length l1_1_2) (hc1_1_2 : l1_1_2.length ≤ c1_1_2) (hr1_2_0 : Kd.C k39 w A1_2_0 l1_2_0.length l1_2_0) (hc1_2_0 : l1_2_0.length ≤ c1_2_0) (h : slices_IndexFunc_int_int_at_impl_Doc_rival_1.f k l0 l1_0_0 a1_1_0 a1_1_1 l1_1_2 l1_2_0 a1_3_0 a1_3_1 a1_3_2 a1_4_0 a1_4_1 a1_4_2 = some r) :
  Calls Tryz.prog 148 #[.slice A0 l0.length c0, .func (.func 150) #[] #[.pointer (some ⟨g1_0_, 0, none⟩), .pointer (some ⟨g1_1_, 0, none⟩), .pointer (some ⟨g1_2_, 0, none⟩), .pointer (some ⟨g1_3_, 0, none⟩), .pointer (some ⟨g1_4_, 0, none⟩)]] w fun e w' => e = .returned (.int .i64 r) ∧ Below w.heap.size w w' := by
 have HR0 := Aside0.mk hr0
 have HC0 := Aside0.mk hc0
 clear hr0 hc0
 have HR1_0_0 := Aside0.mk hr1_0_0
 have HC1_0_0 := Aside0.mk hc1_0_0
 clear hr1_0_0 hc1_0_0
 have HR1_1_2 := Aside0.mk hr1_1_2
 have HC1_1_2 := Aside0.mk hc1_1_2
 clear hr1_1_2 hc1_1_2
 have HR1_2_0 := Aside0.mk hr1_2_0
 have HC1_2_0 := Aside0.mk hc1_2_0
 clear hr1_2_0 hc1_2_0
 have BK25 := Aside0.mk hg1_0_
 clear hg1_0_
 have BK56 := Aside0.mk hq1_1_
 clear hq1_1_
 have BK26 := Aside0.mk hg1_1_
 clear hg1_1_
 have BK27 := Aside0.mk hg1_2_
 clear hg1_2_
 have BK28 := Aside0.mk hg1_3_
 clear hg1_3_
 have BK29 := Aside0.mk hg1_4_
 clear hg1_4_
 have HB := Aside0.mk (Below.refl w.heap.size w)
 have H : (slices_IndexFunc_int_int_at_impl_Doc_rival_1.l0 k l0 (l0.length : Int) 0 l1_0_0 l1_2_0 a1_3_0 a1_3_1 a1_3_2 a1_4_0 a1_4_1 a1_4_2 a1_1_0 a1_1_1 l1_1_2) = some r := h
 clear h
 have H' := Aside0.mk H
 clear H
 go_enter Tryz.func148, Tryz.ntmps148
 go_wp2
 go_loopg [8] k (fun kq v8 w' => ∃ (x8_1 : Int), v8 = .int .i64 x8_1 ∧ Aside0 (slices_IndexFunc_int_int_at_impl_Doc_rival_1.l0 kq l0 (l0.length : Int) x8_1 l1_0_0 l1_2_0 a1_3_0 a1_3_1 a1_3_2 a1_4_0 a1_4_1 a1_4_2 a1_1_0 a1_1_1 l1_1_2 = some r) ∧ Aside0 (kq ≤ k) ∧ Aside0 (w'.heap[g1_0_]? = some (.cells #[(.slice A1_0_0 l1_0_0.length c1_0_0)] 30 (0, 0))) ∧ Aside0 (w'.heap[q1_1_]? = some (.cells #[.int .i64 a1_1_0, .int .i64 a1_1_1, (.slice A1_1_2 l1_1_2.length c1_1_2)] 35 (0, 0))) ∧ Aside0 (w'.heap[g1_1_]? = some (.cells #[.pointer (some ⟨q1_1_, 0, none⟩)] 115 (0, 0))) ∧ Aside0 (w'.heap[g1_2_]? = some (.cells #[(.slice A1_2_0 l1_2_0.length c1_2_0)] 37 (0, 0))) ∧ Aside0 (w'.heap[g1_3_]? = some (.cells #[.int .i64 a1_3_0, .int .i64 a1_3_1, .int .i64 a1_3_2] 39 (0, 0))) ∧ Aside0 (w'.heap[g1_4_]? = some (.cells #[.int .i64 a1_4_0, .int .i64 a1_4_1, .int .i64 a1_4_2] 39 (0, 0))) ∧ Aside0 (Below w.heap.size w w'))
 case atStart => exact ⟨(0), Xr, H', Xkr, BK25, BK56, BK26, BK27, BK28, BK29, ⟨Xi⟩⟩
 clear H'
 obtain ⟨x8_1, rfl, HA, HK1, BK25, BK56, BK26, BK27, BK28, BK29, HB⟩ := hrel
 cases gk with | zero => cases HA.out | succ k1 => ?_
 have H := HA.out
 clear HA
 simp only [slices_IndexFunc_int_int_at_impl_Doc_rival_1.l0] at H
 obtain ⟨c3b0, H⟩ | ⟨c3b0, H⟩ := Xit H
 ·obtain ⟨c4b0, H⟩ := Xid H
  obtain ⟨c5b0, H⟩ := Xid H
  obtain ⟨t596, A6, H⟩ := Xbi H
  try dsimp only at H
  have HC7 := Aside0.mk H
  clear H
  have p595 : 0 ≤ (x8_1 : Int) := of_decide_eq_true Xa
  have q595 : x8_1 < (l0.length : Int) := of_decide_eq_true Xa
  obtain ⟨ad595, e595, hx595_0⟩ := Kd.at_int HR0.out x8_1 p595 q595
  cases e595
  replace hx595_0 := Xm HB hx595_0
  replace p595 := eq_true p595
  replace q595 := eq_true q595
  go_upto_if 16 with (first | (go_at_call 150; (with_reducible refine (impl_Doc_rival_1.calls k1 (rd l0 x8_1) g1_0_ A1_0_0 c1_0_0 l1_0_0 g1_1_ q1_1_ a1_1_0 a1_1_1 A1_1_2 c1_1_2 l1_1_2 g1_2_ A1_2_0 c1_2_0 l1_2_0 g1_3_ a1_3_0 a1_3_1 a1_3_2 g1_4_ a1_4_0 a1_4_1 a1_4_2 t596 _ ?side1 ?side2 ?side3 ?side4 ?side5 ?side6 ?side7 ?side8 ?side9 ?side10 ?side11 ?side12 A6.out).mono ?_); (case side1 => exact BK25.out); (case side2 => exact Xc HR1_0_0); (case side3 => exact HC1_0_0.out); (case side4 => exact BK56.out); (case side5 => exact BK26.out); (case side6 => exact Xc HR1_1_2); (case side7 => exact HC1_1_2.out); (case side8 => exact BK27.out); (case side9 => exact Xc HR1_2_0); (case side10 => exact HC1_2_0.out); (case side11 => exact BK28.out); (case side12 => exact BK29.out); rintro e w8 ⟨rfl, hb⟩; replace BK25 := Xbb BK25 hb; replace BK56 := Xbb BK56 hb; replace BK26 := Xbb BK26 hb; replace BK27 := Xbb BK27 hb; replace BK28 := Xbb BK28 hb; replace BK29 := Xbb BK29 hb; replace HB := Aside0.mk (below_step Xi hb); clear hb))
  have H := HC7.out
  clear HC7
  by_cases c9 : t596 = true
  ·subst c9
   try rw [if_pos rfl] at H
   obtain rfl := Option.some.inj H
   go_wp2
   go_ret
   exact ⟨Xe, Xi⟩
  replace c9 := Bool.eq_false_iff.mpr c9
  subst c9
  try rw [if_neg (show ¬ (false = true) by decide)] at H
  have H' := Aside0.mk H
  clear H
  go_wp2
  go_roundg k1
  case measure => have := HK1.out; omega
  case rel => exact ⟨(wrap64 (x8_1 + 1)), Xr, H', Xk1, BK25, BK56, BK26, BK27, BK28, BK29, ⟨Xi⟩⟩
 obtain rfl := Option.some.inj H
 go_wp2
 go_ret
 exact ⟨Xe, Xi⟩
def slices_ContainsFunc_int_int_at_impl_Doc_rival_1.f (k : Nat) (l0 : List Int) (l1_0_0 : List Int) (a1_1_0 : Int) (a1_1_1 : Int) (l1_1_2 : List (S113)) (l1_2_0 : List (S39)) (a1_3_0 : Int) (a1_3_1 : Int) (a1_3_2 : Int) (a1_4_0 : Int) (a1_4_1 : Int) (a1_4_2 : Int) : Option (Bool) := (slices_IndexFunc_int_int_at_impl_Doc_rival_1.f k l0 l1_0_0 a1_1_0 a1_1_1 l1_1_2 l1_2_0 a1_3_0 a1_3_1 a1_3_2 a1_4_0 a1_4_1 a1_4_2).bind fun t597 => (some (decide (t597 ≥ 0)))
theorem slices_ContainsFunc_int_int_at_impl_Doc_rival_1.calls (k : Nat) (A0 : Option Addr) (c0 : Nat) (l0 : List Int) (g1_0_ : Nat) (g1_1_ : Nat) (q1_1_ : Nat) (g1_2_ : Nat) (g1_3_ : Nat) (g1_4_ : Nat) (A1_0_0 : Option Addr) (c1_0_0 : Nat) (l1_0_0 : List Int) (a1_1_0 : Int) (a1_1_1 : Int) (A1_1_2 : Option Addr) (c1_1_2 : Nat) (l1_1_2 : List (S113)) (A1_2_0 : Option Addr) (c1_2_0 : Nat) (l1_2_0 : List (S39)) (a1_3_0 : Int) (a1_3_1 : Int) (a1_3_2 : Int) (a1_4_0 : Int) (a1_4_1 : Int) (a1_4_2 : Int) (r : Bool) (w : World) (hr0 : Kd.C (Kd.int .i64) w A0 l0.length l0) (hc0 : l0.length ≤ c0) (hg1_0_ : w.heap[g1_0_]? = some (.cells #[.slice A1_0_0 l1_0_0.length c1_0_0] 30 (0, 0))) (hq1_1_ : w.heap[q1_1_]? = some (.cells #[.int .i64 a1_1_0, .int .i64 a1_1_1, .slice A1_1_2 l1_1_2.length c1_1_2] 35 (0, 0))) (hg1_1_ : w.heap[g1_1_]? = some (.cells #[.pointer (some ⟨q1_1_, 0, none⟩)] 115 (0, 0))) (hg1_2_ : w.heap[g1_2_]? = some (.cells #[.slice A1_2_0 l1_2_0.length c1_2_0] 37 (0, 0))) (hg1_3_ : w.heap[g1_3_]? = some (.cells #[.int .i64 a1_3_0, .int .i64 a1_3_1, .int .i64 a1_3_2] 39 (0, 0))) (hg1_4_ : w.heap[g1_4_]? = some (.cells #[.int .i64 a1_4_0, .int .i64 a1_4_1, .int .i64 a1_4_2] 39 (0, 0))) (hr1_0_0 : Kd.C (Kd.int .i64) w A1_0_0 l1_0_0.length l1_0_0) (hc1_0_0 : l1_0_0.length ≤ c1_0_0) (hr1_1_2 : Kd.C k113 w A1_1_2 l1_1_2.length l1_1_2) (hc1_1_2 : l1_1_2.length ≤ c1_1_2) (hr1_2_0 : Kd.C k39 w A1_2_0 l1_2_0.length l1_2_0) (hc1_2_0 : l1_2_0.length ≤ c1_2_0) (h : slices_ContainsFunc_int_int_at_impl_Doc_rival_1.f k l0 l1_0_0 a1_1_0 a1_1_1 l1_1_2 l1_2_0 a1_3_0 a1_3_1 a1_3_2 a1_4_0 a1_4_1 a1_4_2 = some r) :
  Calls Tryz.prog 96 #[.slice A0 l0.length c0, .func (.func 150) #[] #[.pointer (some ⟨g1_0_, 0, none⟩), .pointer (some ⟨g1_1_, 0, none⟩), .pointer (some ⟨g1_2_, 0, none⟩), .pointer (some ⟨g1_3_, 0, none⟩), .pointer (some ⟨g1_4_, 0, none⟩)]] w fun e w' => e = .returned (.bool r) ∧ Below w.heap.size w w' := by
 have HR0 := Aside0.mk hr0
 have HC0 := Aside0.mk hc0
 clear hr0 hc0
 have HR1_0_0 := Aside0.mk hr1_0_0
 have HC1_0_0 := Aside0.mk hc1_0_0
 clear hr1_0_0 hc1_0_0
 have HR1_1_2 := Aside0.mk hr1_1_2
 have HC1_1_2 := Aside0.mk hc1_1_2
 clear hr1_1_2 hc1_1_2
 have HR1_2_0 := Aside0.mk hr1_2_0
 have HC1_2_0 := Aside0.mk hc1_2_0
 clear hr1_2_0 hc1_2_0
 have BK25 := Aside0.mk hg1_0_
 clear hg1_0_
 have BK56 := Aside0.mk hq1_1_
 clear hq1_1_
 have BK26 := Aside0.mk hg1_1_
 clear hg1_1_
 have BK27 := Aside0.mk hg1_2_
 clear hg1_2_
 have BK28 := Aside0.mk hg1_3_
 clear hg1_3_
 have BK29 := Aside0.mk hg1_4_
 clear hg1_4_
 have HB := Aside0.mk (Below.refl w.heap.size w)
 have H : ((slices_IndexFunc_int_int_at_impl_Doc_rival_1.f k l0 l1_0_0 a1_1_0 a1_1_1 l1_1_2 l1_2_0 a1_3_0 a1_3_1 a1_3_2 a1_4_0 a1_4_1 a1_4_2).bind fun t597 => (some (decide (t597 ≥ 0)))) = some r := h
 clear h
 obtain ⟨t597, A3, H⟩ := Xbi H
 try dsimp only at H
 obtain rfl := Option.some.inj H
 go_enter Tryz.func96, Tryz.ntmps96
 go_wp2_with (first | ((with_reducible refine gate_callee (f := 148) rfl ?_); refine Xgo 7 Tryz.func148 #[.slice A0 l0.length c0, .func (.func 150) #[] #[.pointer (some ⟨g1_0_, 0, none⟩), .pointer (some ⟨g1_1_, 0, none⟩), .pointer (some ⟨g1_2_, 0, none⟩), .pointer (some ⟨g1_3_, 0, none⟩), .pointer (some ⟨g1_4_, 0, none⟩)]] ?_; (with_reducible refine (slices_IndexFunc_int_int_at_impl_Doc_rival_1.calls k _ _ l0 g1_0_ g1_1_ q1_1_ g1_2_ g1_3_ g1_4_ A1_0_0 c1_0_0 l1_0_0 a1_1_0 a1_1_1 A1_1_2 c1_1_2 l1_1_2 A1_2_0 c1_2_0 l1_2_0 a1_3_0 a1_3_1 a1_3_2 a1_4_0 a1_4_1 a1_4_2 t597 _ ?side1 ?side2 ?side3 ?side4 ?side5 ?side6 ?side7 ?side8 ?side9 ?side10 ?side11 ?side12 ?side13 ?side14 A3.out).mono ?_); (case side1 => repeat (first | exact HR0.out | (with_reducible first | refine Kd.C_alloc ?_ _ | refine Kd.C_drewN ?_ _ | refine Kd.C_drew ?_))); (case side2 => exact HC0.out); (case side3 => exact BK25.out); (case side4 => exact BK56.out); (case side5 => exact BK26.out); (case side6 => exact BK27.out); (case side7 => exact BK28.out); (case side8 => exact BK29.out); (case side9 => repeat (first | exact HR1_0_0.out | (with_reducible first | refine Kd.C_alloc ?_ _ | refine Kd.C_drewN ?_ _ | refine Kd.C_drew ?_))); (case side10 => exact HC1_0_0.out); (case side11 => repeat (first | exact HR1_1_2.out | (with_reducible first | refine Kd.C_alloc ?_ _ | refine Kd.C_drewN ?_ _ | refine Kd.C_drew ?_))); (case side12 => exact HC1_1_2.out); (case side13 => repeat (first | exact HR1_2_0.out | (with_reducible first | refine Kd.C_alloc ?_ _ | refine Kd.C_drewN ?_ _ | refine Kd.C_drew ?_))); (case side14 => exact HC1_2_0.out); rintro e w4 ⟨rfl, hb⟩; refine ⟨_, rfl, ?_⟩; replace BK25 := Xbb BK25 hb; replace BK56 := Xbb BK56 hb; replace BK26 := Xbb BK26 hb; replace BK27 := Xbb BK27 hb; replace BK28 := Xbb BK28 hb; replace BK29 := Xbb BK29 hb; replace HB := Aside0.mk (below_step Xi hb); clear hb))
 go_ret
 exact ⟨Xe, Xi⟩
def impl_Doc_rival.f (k : Nat) (a0_0 : Int) (a0_1 : Int) (l0_2 : List (S113)) (l1 : List (S39)) (a2_0 : Int) (a2_1 : Int) (a2_2 : Int) (a3_0 : Int) (a3_1 : Int) (a3_2 : Int) : Option (Bool) := (impl_Doc_path.f k a0_0 a0_1 l0_2 a3_1).bind fun t602 => ((impl_Doc_path.f k a0_0 a0_1 l0_2 a2_1).bind fun t606 => ((slices_ContainsFunc_int_int_at_impl_Doc_rival_1.f k t606 t602 a0_0 a0_1 l0_2 l1 a2_0 a2_1 a2_2 a3_0 a3_1 a3_2).bind fun t609 => (some t609)))
theorem impl_Doc_rival.calls (k : Nat) (g0_ : Nat) (a0_0 : Int) (a0_1 : Int) (A0_2 : Option Addr) (c0_2 : Nat) (l0_2 : List (S113)) (A1 : Option Addr) (c1 : Nat) (l1 : List (S39)) (a2_0 : Int) (a2_1 : Int) (a2_2 : Int) (a3_0 : Int) (a3_1 : Int) (a3_2 : Int) (r : Bool) (w : World) (hg0_ : w.heap[g0_]? = some (.cells #[.int .i64 a0_0, .int .i64 a0_1, .slice A0_2 l0_2.length c0_2] 35 (0, 0))) (hr0_2 : Kd.C k113 w A0_2 l0_2.length l0_2) (hc0_2 : l0_2.length ≤ c0_2) (hr1 : Kd.C k39 w A1 l1.length l1) (hc1 : l1.length ≤ c1) (h : impl_Doc_rival.f k a0_0 a0_1 l0_2 l1 a2_0 a2_1 a2_2 a3_0 a3_1 a3_2 = some r) :
  Calls Tryz.prog 110 #[.pointer (some ⟨g0_, 0, none⟩), .slice A1 l1.length c1, .agg #[.int .i64 a2_0, .int .i64 a2_1, .int .i64 a2_2], .agg #[.int .i64 a3_0, .int .i64 a3_1, .int .i64 a3_2]] w fun e w' => e = .returned (.bool r) ∧ Below w.heap.size w w' := by
 have hu39 := Tryz.underlying39
 have HR0_2 := Aside0.mk hr0_2
 have HC0_2 := Aside0.mk hc0_2
 clear hr0_2 hc0_2
 have HR1 := Aside0.mk hr1
 have HC1 := Aside0.mk hc1
 clear hr1 hc1
 have BK0 := Aside0.mk hg0_
 clear hg0_
 have HB := Aside0.mk (Below.refl w.heap.size w)
 have H : ((impl_Doc_path.f k a0_0 a0_1 l0_2 a3_1).bind fun t602 => ((impl_Doc_path.f k a0_0 a0_1 l0_2 a2_1).bind fun t606 => ((slices_ContainsFunc_int_int_at_impl_Doc_rival_1.f k t606 t602 a0_0 a0_1 l0_2 l1 a2_0 a2_1 a2_2 a3_0 a3_1 a3_2).bind fun t609 => (some t609)))) = some r := h
 clear h
 obtain ⟨t602, A5, H⟩ := Xbi H
 try dsimp only at H
 obtain ⟨t606, A6, H⟩ := Xbi H
 try dsimp only at H
 obtain ⟨t609, A7, H⟩ := Xbi H
 try dsimp only at H
 obtain rfl := Option.some.inj H
 go_enter Tryz.func110, Tryz.ntmps110
 go_wp2_with (first | ((with_reducible refine gate_dst (N := 4) rfl ?_); refine Xbox 4 #[.pointer (some ⟨g0_, 0, none⟩)] 115 ?_; intro gb598 hg w8 hbox hb; have BK598 := Aside0.mk (hbox); have GE598 := Xge hg Xi; replace HB := Aside0.mk (below_step Xi hb); have NB0_598 := Xnb hg BK0; have NB598_0 := Xns NB0_598; replace BK0 := Xbb BK0 hb; clear hb hbox hg) | ((with_reducible refine gate_dst (N := 5) rfl ?_); refine Xbox 5 #[.slice A1 l1.length c1] 37 ?_; intro gb599 hg w9 hbox hb; have BK599 := Aside0.mk (hbox); have GE599 := Xge hg Xi; replace HB := Aside0.mk (below_step Xi hb); have NB0_599 := Xnb hg BK0; have NB599_0 := Xns NB0_599; replace BK0 := Xbb BK0 hb; have NB598_599 := Xnb hg BK598; have NB599_598 := Xns NB598_599; replace BK598 := Xbb BK598 hb; clear hb hbox hg) | ((with_reducible refine gate_dst (N := 6) rfl ?_); refine Xbox 6 #[.int .i64 a2_0, .int .i64 a2_1, .int .i64 a2_2] 39 ?_; intro gb600 hg w10 hbox hb; have BK600 := Aside0.mk (hbox); have GE600 := Xge hg Xi; replace HB := Aside0.mk (below_step Xi hb); have NB0_600 := Xnb hg BK0; have NB600_0 := Xns NB0_600; replace BK0 := Xbb BK0 hb; have NB598_600 := Xnb hg BK598; have NB600_598 := Xns NB598_600; replace BK598 := Xbb BK598 hb; have NB599_600 := Xnb hg BK599; have NB600_599 := Xns NB599_600; replace BK599 := Xbb BK599 hb; clear hb hbox hg) | ((with_reducible refine gate_dst (N := 7) rfl ?_); refine Xbox 7 #[.int .i64 a3_0, .int .i64 a3_1, .int .i64 a3_2] 39 ?_; intro gb601 hg w11 hbox hb; have BK601 := Aside0.mk (hbox); have GE601 := Xge hg Xi; replace HB := Aside0.mk (below_step Xi hb); have NB0_601 := Xnb hg BK0; have NB601_0 := Xns NB0_601; replace BK0 := Xbb BK0 hb; have NB598_601 := Xnb hg BK598; have NB601_598 := Xns NB598_601; replace BK598 := Xbb BK598 hb; have NB599_601 := Xnb hg BK599; have NB601_599 := Xns NB599_601; replace BK599 := Xbb BK599 hb; have NB600_601 := Xnb hg BK600; have NB601_600 := Xns NB600_601; replace BK600 := Xbb BK600 hb; clear hb hbox hg; have hnb12 := NB598_0.out; have hnc12 := NB0_598.out; have hnb13 := NB598_599.out; have hnc13 := NB599_598.out; have hnb14 := NB598_600.out; have hnc14 := NB600_598.out; have hnb15 := NB598_601.out; have hnc15 := NB601_598.out; have hcz16_0 := (blk_cell BK598.out 0).trans XW.i0; have hfz16_0 := blk_frozen BK598.out 0; have hnb17 := NB601_0.out; have hnc17 := NB0_601.out; have hnb18 := NB601_599.out; have hnc18 := NB599_601.out; have hnb19 := NB601_600.out; have hnc19 := NB600_601.out; obtain ⟨hcz20_0, hcz20_1, hcz20_2⟩ := Xc3 BK601; obtain ⟨hfz20_0, hfz20_1, hfz20_2⟩ := Xf3 BK601) | ((with_reducible refine gate_callee (f := 72) rfl ?_); refine Xgo 13 Tryz.func72 #[.pointer (some ⟨g0_, 0, none⟩), .int .i64 a3_1] ?_; (with_reducible refine (impl_Doc_path.calls k g0_ a0_0 a0_1 A0_2 c0_2 l0_2 a3_1 t602 _ ?side1 ?side2 ?side3 A5.out).mono ?_); (case side1 => exact BK0.out); (case side2 => exact Xc HR0_2); (case side3 => exact HC0_2.out); rintro e w21 ⟨v603, rfl, ho0, hb⟩; refine ⟨_, rfl, ?_⟩; have HO604 := Aside0.mk (Kd.R_lower ho0 (below_size Xi)); replace BK0 := Xbb BK0 hb; replace BK598 := Xbb BK598 hb; replace BK599 := Xbb BK599 hb; replace BK600 := Xbb BK600 hb; replace BK601 := Xbb BK601 hb; replace HB := Aside0.mk (below_step Xi hb); clear hb; (try clear ho0)) | ((with_reducible refine gate_dst (N := 9) rfl ?_); refine Xbox 9 #[.slice none 0 0] 30 ?_; intro gb605 hg w22 hbox hb; replace HO604 := Aside0.mk (Kd.R_below (Xq HO604) hb); have BK605 := Aside0.mk (hbox); have GE605 := Xge hg Xi; replace HB := Aside0.mk (below_step Xi hb); have NB0_605 := Xnb hg BK0; have NB605_0 := Xns NB0_605; replace BK0 := Xbb BK0 hb; have NB598_605 := Xnb hg BK598; have NB605_598 := Xns NB598_605; replace BK598 := Xbb BK598 hb; have NB599_605 := Xnb hg BK599; have NB605_599 := Xns NB599_605; replace BK599 := Xbb BK599 hb; have NB600_605 := Xnb hg BK600; have NB605_600 := Xns NB600_605; replace BK600 := Xbb BK600 hb; have NB601_605 := Xnb hg BK601; have NB605_601 := Xns NB601_605; replace BK601 := Xbb BK601 hb; clear hb hbox hg; obtain ⟨Ao23, co23, eo23⟩ := Kd.R_slice HO604.out; subst eo23; have hnb24 := NB605_0.out; have hnc24 := NB0_605.out; have hnb25 := NB605_598.out; have hnc25 := NB598_605.out; have hnb26 := NB605_599.out; have hnc26 := NB599_605.out; have hnb27 := NB605_600.out; have hnc27 := NB600_605.out; have hnb28 := NB605_601.out; have hnc28 := NB601_605.out; have hcz29_0 := (blk_cell BK605.out 0).trans XW.i0; have hfz29_0 := blk_frozen BK605.out 0; have hcz30_0 := (blk_cell BK598.out 0).trans XW.i0; have hfz30_0 := blk_frozen BK598.out 0; have hnb31 := NB600_0.out; have hnc31 := NB0_600.out; have hnb32 := NB600_599.out; have hnc32 := NB599_600.out; obtain ⟨hcz33_0, hcz33_1, hcz33_2⟩ := Xc3 BK600; obtain ⟨hfz33_0, hfz33_1, hfz33_2⟩ := Xf3 BK600) | ((with_reducible refine gate_callee (f := 72) rfl ?_); refine Xgo 17 Tryz.func72 #[.pointer (some ⟨g0_, 0, none⟩), .int .i64 a2_1] ?_; (with_reducible refine (impl_Doc_path.calls k g0_ a0_0 a0_1 A0_2 c0_2 l0_2 a2_1 t606 _ ?side1 ?side2 ?side3 A6.out).mono ?_); (case side1 => exact (by (with_reducible repeat (first | refine blk_drewN ?_ _ | refine blk_drew ?_ | refine blk_alloc ?_ _)); refine blk_far ?_ NB0_605.out _; (with_reducible repeat (first | refine blk_drewN ?_ _ | refine blk_drew ?_ | refine blk_alloc ?_ _)); exact BK0.out)); (case side2 => exact Xc HR0_2); (case side3 => exact HC0_2.out); rintro e w34 ⟨v607, rfl, ho0, hb⟩; refine ⟨_, rfl, ?_⟩; have HO608 := Aside0.mk (Kd.R_lower (Kd.R_new' ho0 (Kd.R_lt (by (with_reducible repeat (first | apply Kd.R_alloc | apply Kd.R_drewN | apply Kd.R_drew)); exact (Kd.R_mono (Kd.R_far (p := ⟨gb605, 0, none⟩) (Kd.R_types HO604.out BK605.out (by decide)) (fun _ hk => hk.2) (.slice Ao23 t602.length co23)) (fun _ h_ => h_.1))))) (below_size Xi)); replace HO604 := Aside0.mk (Kd.R_elder' (by (with_reducible repeat (first | apply Kd.R_alloc | apply Kd.R_drewN | apply Kd.R_drew)); exact (Kd.R_mono (Kd.R_far (p := ⟨gb605, 0, none⟩) (Kd.R_types HO604.out BK605.out (by decide)) (fun _ hk => hk.2) (.slice Ao23 t602.length co23)) (fun _ h_ => h_.1))) (Kd.R_base ho0) hb); replace BK0 := Aside0.mk (blk_below (g := g0_) (o := .cells #[.int .i64 a0_0, .int .i64 a0_1, .slice A0_2 l0_2.length c0_2] 35 (0, 0)) (by (with_reducible repeat (first | refine blk_drewN ?_ _ | refine blk_drew ?_ | refine blk_alloc ?_ _)); refine blk_far ?_ NB0_605.out _; (with_reducible repeat (first | refine blk_drewN ?_ _ | refine blk_drew ?_ | refine blk_alloc ?_ _)); exact BK0.out) hb); replace BK598 := Aside0.mk (blk_below (g := gb598) (o := .cells #[.pointer (some ⟨g0_, 0, none⟩)] 115 (0, 0)) (by (with_reducible repeat (first | refine blk_drewN ?_ _ | refine blk_drew ?_ | refine blk_alloc ?_ _)); refine blk_far ?_ NB598_605.out _; (with_reducible repeat (first | refine blk_drewN ?_ _ | refine blk_drew ?_ | refine blk_alloc ?_ _)); exact BK598.out) hb); replace BK599 := Aside0.mk (blk_below (g := gb599) (o := .cells #[.slice A1 l1.length c1] 37 (0, 0)) (by (with_reducible repeat (first | refine blk_drewN ?_ _ | refine blk_drew ?_ | refine blk_alloc ?_ _)); refine blk_far ?_ NB599_605.out _; (with_reducible repeat (first | refine blk_drewN ?_ _ | refine blk_drew ?_ | refine blk_alloc ?_ _)); exact BK599.out) hb); replace BK600 := Aside0.mk (blk_below (g := gb600) (o := .cells #[.int .i64 a2_0, .int .i64 a2_1, .int .i64 a2_2] 39 (0, 0)) (by (with_reducible repeat (first | refine blk_drewN ?_ _ | refine blk_drew ?_ | refine blk_alloc ?_ _)); refine blk_far ?_ NB600_605.out _; (with_reducible repeat (first | refine blk_drewN ?_ _ | refine blk_drew ?_ | refine blk_alloc ?_ _)); exact BK600.out) hb); replace BK601 := Aside0.mk (blk_below (g := gb601) (o := .cells #[.int .i64 a3_0, .int .i64 a3_1, .int .i64 a3_2] 39 (0, 0)) (by (with_reducible repeat (first | refine blk_drewN ?_ _ | refine blk_drew ?_ | refine blk_alloc ?_ _)); refine blk_far ?_ NB601_605.out _; (with_reducible repeat (first | refine blk_drewN ?_ _ | refine blk_drew ?_ | refine blk_alloc ?_ _)); exact BK601.out) hb); replace BK605 := Aside0.mk (blk_below (g := gb605) (o := .cells #[.slice Ao23 t602.length co23] 30 (0, 0)) (by (with_reducible repeat (first | refine blk_drewN ?_ _ | refine blk_drew ?_ | refine blk_alloc ?_ _)); refine blk_put (cs := #[.slice none 0 0]) ?_ 0 _ rfl; (with_reducible repeat (first | refine blk_drewN ?_ _ | refine blk_drew ?_ | refine blk_alloc ?_ _)); exact BK605.out) hb); replace HB := Aside0.mk (below_step Xi hb); clear hb; (try clear ho0); obtain ⟨Ao35, co35, eo35⟩ := Kd.R_slice HO608.out; subst eo35) | ((with_reducible refine gate_callee (f := 96) rfl ?_); refine Xgo 19 Tryz.func96 #[.slice Ao35 t606.length co35, .func (.func 150) #[] #[.pointer (some ⟨gb605, 0, none⟩), .pointer (some ⟨gb598, 0, none⟩), .pointer (some ⟨gb599, 0, none⟩), .pointer (some ⟨gb600, 0, none⟩), .pointer (some ⟨gb601, 0, none⟩)]] ?_; (with_reducible refine (slices_ContainsFunc_int_int_at_impl_Doc_rival_1.calls k _ _ t606 gb605 gb598 g0_ gb599 gb600 gb601 Ao23 co23 t602 a0_0 a0_1 A0_2 c0_2 l0_2 A1 c1 l1 a2_0 a2_1 a2_2 a3_0 a3_1 a3_2 t609 _ ?side1 ?side2 ?side3 ?side4 ?side5 ?side6 ?side7 ?side8 ?side9 ?side10 ?side11 ?side12 ?side13 ?side14 A7.out).mono ?_); (case side1 => repeat (first | exact (Kd.R_reads' HO608.out).2.2 | (with_reducible first | refine Kd.C_alloc ?_ _ | refine Kd.C_drewN ?_ _ | refine Kd.C_drew ?_))); (case side2 => exact (Kd.R_reads' HO608.out).2.1); (case side3 => exact BK605.out); (case side4 => exact BK0.out); (case side5 => exact BK598.out); (case side6 => exact BK599.out); (case side7 => exact BK600.out); (case side8 => exact BK601.out); (case side9 => repeat (first | exact (Kd.R_reads' HO604.out).2.2 | (with_reducible first | refine Kd.C_alloc ?_ _ | refine Kd.C_drewN ?_ _ | refine Kd.C_drew ?_))); (case side10 => exact (Kd.R_reads' HO604.out).2.1); (case side11 => exact Xc HR0_2); (case side12 => exact HC0_2.out); (case side13 => exact Xc HR1); (case side14 => exact HC1.out); rintro e w36 ⟨rfl, hb⟩; refine ⟨_, rfl, ?_⟩; replace HO604 := Aside0.mk (Kd.R_below (Xq HO604) hb); replace HO608 := Aside0.mk (Kd.R_below (Xq HO608) hb); replace BK0 := Xbb BK0 hb; replace BK598 := Xbb BK598 hb; replace BK599 := Xbb BK599 hb; replace BK600 := Xbb BK600 hb; replace BK601 := Xbb BK601 hb; replace BK605 := Xbb BK605 hb; replace HB := Aside0.mk (below_step Xi hb); clear hb))
 go_ret
 exact ⟨Xe, Xi⟩
def impl_Doc_blockers.l0 : Nat → List Int → List (S39) → Int → Int → Int → Int → List (S113) → List (S39) → List (S39) → Int → Int → Int → Option (List Int)
 | 0, _, _, _, _, _, _, _, _, _, _, _, _ => none
 | k + 1, x8, x30, x31, x32, x1000, x1001, x1002, x2000, x2001, x612000, x612001, x612002 => if x32 < x31 then (if 0 ≤ x32 then (if x32 < (x30.length : Int) then ((impl_Doc_rival.f k x1000 x1001 x1002 x2000 ((rd_T39 x30 x32).f0) ((rd_T39 x30 x32).f1) ((rd_T39 x30 x32).f2) x612000 x612001 x612002).bind fun t621 => (if t621 = true then (if x8.length < 17592186044416 then (impl_Doc_blockers.l0 k (x8 ++ [(rd_T39 x30 x32).f0]) x30 x31 (wrap64 (x32 + 1)) x1000 x1001 x1002 x2000 x2001 x612000 x612001 x612002) else (none)) else (impl_Doc_blockers.l0 k x8 x30 x31 (wrap64 (x32 + 1)) x1000 x1001 x1002 x2000 x2001 x612000 x612001 x612002))) else (none)) else (none)) else ((slices_Sort_int_int.f x8).bind fun t625 => ((slices_Compact_int_int.f t625).bind fun t626 => (some t626)))
def impl_Doc_blockers.f (k : Nat) (a0_0 : Int) (a0_1 : Int) (l0_2 : List (S113)) (l1_0 : List (S39)) (l1_1 : List (S39)) (a2 : Int) : Option (List Int) := if 0 ≤ a2 then (if a2 < (l1_1.length : Int) then ((impl_Doc_conflicts.f k a0_0 a0_1 l0_2 l1_0 ((rd_T39 l1_1 a2).f0) ((rd_T39 l1_1 a2).f1) ((rd_T39 l1_1 a2).f2)).bind fun t612 => (if a2 ≤ (l1_1.length : Int) then ((some (l1_1.take (a2 : Int).toNat : List (S39))).bind fun y615 => (impl_Doc_blockers.l0 k t612 y615 (y615.length : Int) 0 a0_0 a0_1 l0_2 l1_0 l1_1 ((rd_T39 l1_1 a2).f0) ((rd_T39 l1_1 a2).f1) ((rd_T39 l1_1 a2).f2))) else (none))) else (none)) else (none)
def impl_Doc_blockers.T2 : Bool × List (List Nat × List Nat) := (true, [([], []), ([], []), ([1], [1]), ([2], [2]), ([3], [3]), ([], []), ([0, 4, 5], [0, 4, 5]), ([6, 6, 0, 1, 2, 3, 4, 5, 6], [6])])
def impl_Doc_blockers.B2 : List Nat := [0, 0, 2, 6, 14, 0, 63, 127]
theorem impl_Doc_blockers.tab2 : rtab .any (opsOf Tryz.f59 2) = impl_Doc_blockers.T2 := by kernel_rfl
theorem impl_Doc_blockers.bits2 : waitsOk impl_Doc_blockers.T2.2 impl_Doc_blockers.B2 = true := by kernel_rfl
def impl_Doc_blockers.T6 : Bool × List (List Nat × List Nat) := (true, [([], []), ([], []), ([1], [1]), ([2], [2]), ([3], [3]), ([], []), ([], []), ([0, 4, 5, 6], [0, 4, 5, 6])])
def impl_Doc_blockers.B6 : List Nat := [0, 0, 2, 6, 14, 0, 0, 127]
theorem impl_Doc_blockers.tab6 : rtab .any (opsOf Tryz.f59 6) = impl_Doc_blockers.T6 := by kernel_rfl
theorem impl_Doc_blockers.bits6 : waitsOk impl_Doc_blockers.T6.2 impl_Doc_blockers.B6 = true := by kernel_rfl
theorem impl_Doc_blockers.calls (k : Nat) (g0_ : Nat) (a0_0 : Int) (a0_1 : Int) (A0_2 : Option Addr) (c0_2 : Nat) (l0_2 : List (S113)) (g1_ : Nat) (A1_0 : Option Addr) (c1_0 : Nat) (l1_0 : List (S39)) (A1_1 : Option Addr) (c1_1 : Nat) (l1_1 : List (S39)) (a2 : Int) (r : List Int) (w : World) (hg0_ : w.heap[g0_]? = some (.cells #[.int .i64 a0_0, .int .i64 a0_1, .slice A0_2 l0_2.length c0_2] 35 (0, 0))) (hr0_2 : Kd.C k113 w A0_2 l0_2.length l0_2) (hc0_2 : l0_2.length ≤ c0_2) (hg1_ : w.heap[g1_]? = some (.cells #[.slice A1_0 l1_0.length c1_0, .slice A1_1 l1_1.length c1_1] 53 (0, 0))) (hr1_0 : Kd.C k39 w A1_0 l1_0.length l1_0) (hc1_0 : l1_0.length ≤ c1_0) (hr1_1 : Kd.C k39 w A1_1 l1_1.length l1_1) (hc1_1 : l1_1.length ≤ c1_1) (h : impl_Doc_blockers.f k a0_0 a0_1 l0_2 l1_0 l1_1 a2 = some r) :
  Calls Tryz.prog 59 #[.pointer (some ⟨g0_, 0, none⟩), .pointer (some ⟨g1_, 0, none⟩), .int .i64 a2] w fun e w' => ∃ v0_ : Value, e = .returned (v0_) ∧ Kd.R (Kd.int .i64) 3 w' w.heap.size (fun _ => True) v0_ r ∧ Below w.heap.size w w' := by
 have hu39 := Tryz.underlying39
 have HR0_2 := Aside0.mk hr0_2
 have HC0_2 := Aside0.mk hc0_2
 clear hr0_2 hc0_2
 have HR1_0 := Aside0.mk hr1_0
 have HC1_0 := Aside0.mk hc1_0
 clear hr1_0 hc1_0
 have HR1_1 := Aside0.mk hr1_1
 have HC1_1 := Aside0.mk hc1_1
 clear hr1_1 hc1_1
 have BK0 := Aside0.mk hg0_
 clear hg0_
 have BK1 := Aside0.mk hg1_
 clear hg1_
 have HB := Aside0.mk (Below.refl w.heap.size w)
 have H : (if 0 ≤ a2 then (if a2 < (l1_1.length : Int) then ((impl_Doc_conflicts.f k a0_0 a0_1 l0_2 l1_0 ((rd_T39 l1_1 a2).f0) ((rd_T39 l1_1 a2).f1) ((rd_T39 l1_1 a2).f2)).bind fun t612 => (if a2 ≤ (l1_1.length : Int) then ((some (l1_1.take (a2 : Int).toNat : List (S39))).bind fun y615 => (impl_Doc_blockers.l0 k t612 y615 (y615.length : Int) 0 a0_0 a0_1 l0_2 l1_0 l1_1 ((rd_T39 l1_1 a2).f0) ((rd_T39 l1_1 a2).f1) ((rd_T39 l1_1 a2).f2))) else (none))) else (none)) else (none)) = some r := h
 clear h
 obtain ⟨c4, H⟩ | ⟨c4, H⟩ := Xiu H
 ·have c4b0 : decide (0 ≤ a2) = true := decide_eq_true c4
  clear c4
  obtain ⟨c5b0, H⟩ := Xid H
  obtain ⟨t612, A6, H⟩ := Xbi H
  try dsimp only at H
  have c7b0 := eq_true (of_decide_eq_true Xa : 0 ≤ a2)
  obtain ⟨c8, H⟩ := Xif H
  have c8b0 := eq_true c8
  have c8b1 : decide (a2 ≤ (l1_1.length : Int)) = true := decide_eq_true c8
  clear c8
  obtain ⟨y615, hy615⟩ : ∃ y_ : List (S39), y_ = (l1_1.take (a2 : Int).toNat) := ⟨_, rfl⟩
  replace H : (impl_Doc_blockers.l0 k t612 y615 (y615.length : Int) 0 a0_0 a0_1 l0_2 l1_0 l1_1 ((rd_T39 l1_1 a2).f0) ((rd_T39 l1_1 a2).f1) ((rd_T39 l1_1 a2).f2)) = some r := by first | (rw [hy615]; with_reducible exact H) | (have H2_ := (Option.bind_some _ _).symm.trans H; rw [hy615]; with_reducible exact H2_) | (have H2_ := (Option.bind_some _ _).symm.trans H; with_reducible exact H2_) | with_reducible exact H | (rw [hy615]; exact H) | exact H
  have Ny615 := Aside0.mk hy615
  clear hy615
  have H' := Aside0.mk H
  clear H
  obtain ⟨hcz9_0, hcz9_1⟩ := Xc2 BK1
  obtain ⟨hfz9_0, hfz9_1⟩ := Xf2 BK1
  have p610 : 0 ≤ (a2 : Int) := of_decide_eq_true Xa
  have q610 : a2 < (l1_1.length : Int) := of_decide_eq_true Xa
  obtain ⟨ad610, e610, hx610_0, hx610_1, hx610_2⟩ := at_T39 HR1_1.out a2 p610 q610
  cases e610
  replace p610 := eq_true p610
  replace q610 := eq_true q610
  go_enter Tryz.func59, Tryz.ntmps59
  try go_wp2_with (first | ((with_reducible refine gate_dst (N := 7) rfl ?_); refine Xbox 7 #[.int .i64 0, .int .i64 0, .int .i64 0] 39 ?_; intro gb611 hg w10 hbox hb; have BK611 := Aside0.mk (hbox); have GE611 := Xge hg Xi; replace HB := Aside0.mk (below_step Xi hb); have NB0_611 := Xnb hg BK0; have NB611_0 := Xns NB0_611; replace BK0 := Xbb BK0 hb; have NB1_611 := Xnb hg BK1; have NB611_1 := Xns NB1_611; replace BK1 := Xbb BK1 hb; clear hb hbox hg; have hnb11 := NB611_0.out; have hnc11 := NB0_611.out; have hnb12 := NB611_1.out; have hnc12 := NB1_611.out; obtain ⟨hcz13_0, hcz13_1, hcz13_2⟩ := Xc3 BK611; obtain ⟨hfz13_0, hfz13_1, hfz13_2⟩ := Xf3 BK611) | ((with_reducible refine gate_store (t := 39) (p := 7) rfl ?_); refine store_event (t := 39) (p := 7) (v := ?vo_w14) (w1 := (((w10.setCell ⟨gb611, 0, none⟩ (.int .i64 ((rd_T39 l1_1 a2).f0))).setCell ⟨gb611, 1, none⟩ (.int .i64 ((rd_T39 l1_1 a2).f1))).setCell ⟨gb611, 2, none⟩ (.int .i64 ((rd_T39 l1_1 a2).f2)))) ?hg ?ho ?hn ?hr ?_; (case ho => rfl); (case hg => rfl); (case hn => rfl); (case hr => first | (go_simp; done) | (go_simp; rfl)); intro w14 hw; have n0_ : Aside0 (w14.heap[g0_]? = some (.cells #[.int .i64 a0_0, .int .i64 a0_1, .slice A0_2 l0_2.length c0_2] 35 (0, 0))) := ⟨(by rw [hw]; exact (by (with_reducible repeat (first | refine blk_drewN ?_ _ | refine blk_drew ?_ | refine blk_alloc ?_ _)); refine blk_far ?_ NB0_611.out _; (with_reducible repeat (first | refine blk_drewN ?_ _ | refine blk_drew ?_ | refine blk_alloc ?_ _)); refine blk_far ?_ NB0_611.out _; (with_reducible repeat (first | refine blk_drewN ?_ _ | refine blk_drew ?_ | refine blk_alloc ?_ _)); refine blk_far ?_ NB0_611.out _; (with_reducible repeat (first | refine blk_drewN ?_ _ | refine blk_drew ?_ | refine blk_alloc ?_ _)); exact BK0.out))⟩; have n1_ : Aside0 (w14.heap[g1_]? = some (.cells #[.slice A1_0 l1_0.length c1_0, .slice (some ad610) l1_1.length c1_1] 53 (0, 0))) := ⟨(by rw [hw]; exact (by (with_reducible repeat (first | refine blk_drewN ?_ _ | refine blk_drew ?_ | refine blk_alloc ?_ _)); refine blk_far ?_ NB1_611.out _; (with_reducible repeat (first | refine blk_drewN ?_ _ | refine blk_drew ?_ | refine blk_alloc ?_ _)); refine blk_far ?_ NB1_611.out _; (with_reducible repeat (first | refine blk_drewN ?_ _ | refine blk_drew ?_ | refine blk_alloc ?_ _)); refine blk_far ?_ NB1_611.out _; (with_reducible repeat (first | refine blk_drewN ?_ _ | refine blk_drew ?_ | refine blk_alloc ?_ _)); exact BK1.out))⟩; have n2_ : Aside0 (w14.heap[gb611]? = some (.cells #[.int .i64 ((rd_T39 l1_1 a2).f0), .int .i64 ((rd_T39 l1_1 a2).f1), .int .i64 ((rd_T39 l1_1 a2).f2)] 39 (0, 0))) := ⟨(by rw [hw]; exact (by (with_reducible repeat (first | refine blk_drewN ?_ _ | refine blk_drew ?_ | refine blk_alloc ?_ _)); refine blk_put (cs := #[.int .i64 ((rd_T39 l1_1 a2).f0), .int .i64 ((rd_T39 l1_1 a2).f1), .int .i64 0]) ?_ 2 _ rfl; (with_reducible repeat (first | refine blk_drewN ?_ _ | refine blk_drew ?_ | refine blk_alloc ?_ _)); refine blk_put (cs := #[.int .i64 ((rd_T39 l1_1 a2).f0), .int .i64 0, .int .i64 0]) ?_ 1 _ rfl; (with_reducible repeat (first | refine blk_drewN ?_ _ | refine blk_drew ?_ | refine blk_alloc ?_ _)); refine blk_put (cs := #[.int .i64 0, .int .i64 0, .int .i64 0]) ?_ 0 _ rfl; (with_reducible repeat (first | refine blk_drewN ?_ _ | refine blk_drew ?_ | refine blk_alloc ?_ _)); exact BK611.out))⟩; have n3_ : Aside0 (Below w.heap.size w w14) := ⟨(by rw [hw]; exact Xi)⟩; clear hw; clear BK0; clear BK1; clear BK611; clear HB; have BK0 := n0_; have BK1 := n1_; have BK611 := n2_; have HB := n3_; clear n0_ n1_ n2_ n3_))
  replace BK0 := Aside0.mk (blk_drew BK0.out)
  replace BK1 := Aside0.mk (blk_drew BK1.out)
  replace BK611 := Aside0.mk (blk_drew BK611.out)
  replace HB := Aside0.mk (below_drew1 HB.out)
  refine start_ (n := 8) (S := fun w' => w'.cell? ⟨g1_, 0, none⟩ = some (.slice A1_0 l1_0.length c1_0) ∧ w'.cell? ⟨g1_, 1, none⟩ = some (.slice (some ad610) l1_1.length c1_1) ∧ w'.cell? ⟨gb611, 0, none⟩ = some (.int .i64 ((rd_T39 l1_1 a2).f0)) ∧ w'.cell? ⟨gb611, 1, none⟩ = some (.int .i64 ((rd_T39 l1_1 a2).f1)) ∧ w'.cell? ⟨gb611, 2, none⟩ = some (.int .i64 ((rd_T39 l1_1 a2).f2))) (ds := []) #[false, false, false, false, false, false, false, false] (by kernel_rfl) rfl rfl ⟨(blk_cell BK1.out 0).trans rfl, (blk_cell BK1.out 1).trans rfl, (blk_cell BK611.out 0).trans rfl, (blk_cell BK611.out 1).trans rfl, (blk_cell BK611.out 2).trans rfl⟩ (fun hHeld => ?_); refine with_tabW impl_Doc_blockers.tab2 impl_Doc_blockers.bits2 (fun HT_ HW_ => ?_)
  generalize w14.drew = w15 at BK0 BK1 BK611 HB hHeld ⊢
  refine Xpu 0 18 (XW.bs 8 1) HT_.out ?_
  refine Xpu 1 19 (XW.bs 8 3) HT_.out ?_
  refine Xpu 2 20 (XW.bs 8 7) HT_.out ?_
  refine Xpu 3 21 (XW.bs 8 15) HT_.out ?_
  refine Xta 4 22 (XW.bs 8 31) HT_.out HW_.out hHeld ?_
  refine Xta 5 23 (XW.bs 8 63) HT_.out HW_.out hHeld ?_
  refine one_ (i := 6) (N := some 24) (XW.bs 8 127) rfl rfl (one_of HT_.out (by kernel_rfl)) (by decide) (fun K hK => ?_)
  refine goes_ Tryz.func50 (by kernel_rfl) rfl #[.pointer (some ⟨g0_, 0, none⟩), .slice A1_0 l1_0.length c1_0, .agg #[.int .i64 ((rd_T39 l1_1 a2).f0), .int .i64 ((rd_T39 l1_1 a2).f1), .int .i64 ((rd_T39 l1_1 a2).f2)]] (by rfl) rfl rfl (by (try simp only [List.map_toArray, List.map_cons, List.map_nil]); first | done | rfl | (simp only [List.length_drop, List.length_take]; rfl)) ?_
  with_reducible refine (impl_Doc_conflicts.calls k g0_ a0_0 a0_1 A0_2 c0_2 l0_2 _ _ l1_0 ((rd_T39 l1_1 a2).f0) ((rd_T39 l1_1 a2).f1) ((rd_T39 l1_1 a2).f2) t612 _ ?side1 ?side2 ?side3 ?side4 ?side5 A6.out).mono ?_
  (case side1 => exact (Xq' BK0))
  (case side2 => exact Xc HR0_2)
  (case side3 => exact HC0_2.out)
  (case side4 => exact Xc HR1_0)
  (case side5 => exact HC1_0.out)
  rintro e w16 ⟨v613, rfl, ho0, hb⟩
  refine ⟨_, rfl, ?_⟩
  have HO614 := Aside0.mk (Kd.R_lower ho0 (below_size Xi))
  replace BK0 := Xbb BK0 hb
  replace BK1 := Xbb BK1 hb
  replace BK611 := Xbb BK611 hb
  replace HB := Aside0.mk (below_step Xi hb)
  try clear hb
  try clear hb2
  try clear hk
  try clear hi
  try clear ho0
  refine hK.out _ _ ⟨(blk_cell BK1.out 0).trans rfl, (blk_cell BK1.out 1).trans rfl, (blk_cell BK611.out 0).trans rfl, (blk_cell BK611.out 1).trans rfl, (blk_cell BK611.out 2).trans rfl⟩ (fun hHeld => ?_)
  clear hK K
  refine Xno ?_
  refine Xpu 7 8 (XW.bs 8 255) HT_.out ?_
  refine done_ (done_of HT_.out (by kernel_rfl)) ?_
  obtain ⟨hcz17_0, hcz17_1⟩ := Xc2 BK1
  obtain ⟨hfz17_0, hfz17_1⟩ := Xf2 BK1
  have q18 : (a2 : Int) ≤ ((l1_1.length : Int) : Int) := of_decide_eq_true Xa
  obtain ⟨i018, hi018, _, hsz18, _⟩ := info_parts info39
  have hroom18 : l1_1.length ≤ c1_1 := HC1_1.out
  have hC18 : Kd.C k39 _ (some ad610) l1_1.length l1_1 := HR1_1.out
  have hcut18 := cut_to (P := Tryz.prog) 37 39 .i64 Tryz.underlying37 hi018 (some ad610) l1_1.length c1_1 a2 (of_decide_eq_true Xa) q18 hroom18
  have hr18 := Kd.C_take (m := (a2 : Int).toNat) hC18 (by omega)
  have hy18 : y615.length = (a2 : Int).toNat := (by rw [Ny615.out, List.length_take]; omega)
  rw [← Ny615.out] at hr18
  rw [← hy18] at hcut18
  have HR618 := Aside0.mk hr18
  have HC618 := Aside0.mk (show y615.length ≤ c1_1 from by omega)
  clear hr18 hC18 hroom18 hi018 hsz18
  have KY18 := Aside0.mk hy18
  clear hy18
  replace q18 := eq_true q18
  try go_wp2_with (fail)
  go_loopg [8, 32] k (fun kq v8 v32 w' => ∃ (x8_1 : List Int) (x32_1 : Int), v32 = .int .i64 x32_1 ∧ Aside0 (impl_Doc_blockers.l0 kq x8_1 y615 (y615.length : Int) x32_1 a0_0 a0_1 l0_2 l1_0 l1_1 ((rd_T39 l1_1 a2).f0) ((rd_T39 l1_1 a2).f1) ((rd_T39 l1_1 a2).f2) = some r) ∧ Aside0 (kq ≤ k) ∧ Aside0 (Kd.R (Kd.int .i64) 3 w' w.heap.size (fun _ => True) v8 x8_1) ∧ Aside0 (w'.heap[g0_]? = some (.cells #[.int .i64 a0_0, .int .i64 a0_1, (.slice A0_2 l0_2.length c0_2)] 35 (0, 0))) ∧ Aside0 (w'.heap[g1_]? = some (.cells #[(.slice A1_0 l1_0.length c1_0), (.slice (some ad610) l1_1.length c1_1)] 53 (0, 0))) ∧ Aside0 (w'.heap[gb611]? = some (.cells #[.int .i64 ((rd_T39 l1_1 a2).f0), .int .i64 ((rd_T39 l1_1 a2).f1), .int .i64 ((rd_T39 l1_1 a2).f2)] 39 (0, 0))) ∧ Aside0 (Below w.heap.size w w'))
  case atStart => exact ⟨(t612), (0), Xr, H', Xkr, (Xp' HO614), (Xp BK0), (Xp BK1), (Xp BK611), ⟨Xi⟩⟩
  clear H'
  (try clear c4); (try clear c4b0); (try clear c5); (try clear c5b0); (try clear c7b0); (try clear c8); (try clear c8b0); (try clear c8b1); (try clear q18); (try clear hcz13_0); (try clear hcz13_1); (try clear hcz13_2); (try clear hcz17_0); (try clear hcz17_1); (try clear hcz9_0); (try clear hcz9_1); (try clear hfz13_0); (try clear hfz13_1); (try clear hfz13_2); (try clear hfz17_0); (try clear hfz17_1); (try clear hfz9_0); (try clear hfz9_1); (try clear hx610_0); (try clear hx610_1); (try clear hx610_2); (try clear p610); (try clear q18); (try clear q610)
  obtain ⟨x8_1, x32_1, rfl, HA, HK1, HO_8, BK0, BK1, BK611, HB⟩ := hrel
  cases gk with | zero => cases HA.out | succ k1 => ?_
  have H := HA.out
  clear HA
  simp only [impl_Doc_blockers.l0] at H
  obtain ⟨c19b0, H⟩ | ⟨c19b0, H⟩ := Xit H
  ·obtain ⟨c20b0, H⟩ := Xid H
   obtain ⟨c21b0, H⟩ := Xid H
   obtain ⟨t621, A22, H⟩ := Xbi H
   try dsimp only at H
   have HC23 := Aside0.mk H
   clear H
   obtain ⟨ad619, e619, p619, q619, hx619_0, hx619_1, hx619_2⟩ := at_B39 HR618 x32_1 Xa Xa HB
   obtain rfl : ad610 = ad619 := (by injection e619)
   try go_wp2_with (first | ((with_reducible refine gate_dst (N := 10) rfl ?_); refine Xbox 10 #[.int .i64 0, .int .i64 0, .int .i64 0] 39 ?_; intro gb620 hg w24 hbox hb; replace HO_8 := Aside0.mk (Kd.R_below (Xq HO_8) hb); have BK620 := Aside0.mk (hbox); have GE620 := Xge hg Xi; replace HB := Aside0.mk (below_step Xi hb); have NB0_620 := Xnb hg BK0; have NB620_0 := Xns NB0_620; replace BK0 := Xbb BK0 hb; have NB1_620 := Xnb hg BK1; have NB620_1 := Xns NB1_620; replace BK1 := Xbb BK1 hb; have NB611_620 := Xnb hg BK611; have NB620_611 := Xns NB611_620; replace BK611 := Xbb BK611 hb; clear hb hbox hg; have hnb25 := NB620_0.out; have hnc25 := NB0_620.out; have hnb26 := NB620_1.out; have hnc26 := NB1_620.out; have hnb27 := NB620_611.out; have hnc27 := NB611_620.out; obtain ⟨hcz28_0, hcz28_1, hcz28_2⟩ := Xc3 BK620; obtain ⟨hfz28_0, hfz28_1, hfz28_2⟩ := Xf3 BK620) | ((with_reducible refine gate_store (t := 39) (p := 10) rfl ?_); refine store_event (t := 39) (p := 10) (v := ?vo_w29) (w1 := (((w24.setCell ⟨gb620, 0, none⟩ (.int .i64 ((rd_T39 y615 x32_1).f0))).setCell ⟨gb620, 1, none⟩ (.int .i64 ((rd_T39 y615 x32_1).f1))).setCell ⟨gb620, 2, none⟩ (.int .i64 ((rd_T39 y615 x32_1).f2)))) ?hg ?ho ?hn ?hr ?_; (case ho => rfl); (case hg => rfl); (case hn => rfl); (case hr => first | (go_simp; done) | (go_simp; rfl)); intro w29 hw; have n0_ : Aside0 (Kd.R (Kd.int .i64) 3 w29 w.heap.size (fun _ => True) u8 x8_1) := ⟨(by rw [hw]; exact (by (with_reducible repeat (first | apply Kd.R_alloc | apply Kd.R_drewN | apply Kd.R_drew)); exact Kd.R_mono (Kd.R_far (p := ⟨gb620, 2, none⟩) (Kd.R_far (p := ⟨gb620, 1, none⟩) (Kd.R_far (p := ⟨gb620, 0, none⟩) (Kd.R_types HO_8.out BK620.out (by decide)) (fun _ hk => hk.2) (.int .i64 ((rd_T39 y615 x32_1).f0))) (fun _ hk => hk.2) (.int .i64 ((rd_T39 y615 x32_1).f1))) (fun _ hk => hk.2) (.int .i64 ((rd_T39 y615 x32_1).f2))) (fun _ hk => trivial)))⟩; have n1_ : Aside0 (w29.heap[g0_]? = some (.cells #[.int .i64 a0_0, .int .i64 a0_1, .slice A0_2 l0_2.length c0_2] 35 (0, 0))) := ⟨(by rw [hw]; exact (by (with_reducible repeat (first | refine blk_drewN ?_ _ | refine blk_drew ?_ | refine blk_alloc ?_ _)); refine blk_far ?_ NB0_620.out _; (with_reducible repeat (first | refine blk_drewN ?_ _ | refine blk_drew ?_ | refine blk_alloc ?_ _)); refine blk_far ?_ NB0_620.out _; (with_reducible repeat (first | refine blk_drewN ?_ _ | refine blk_drew ?_ | refine blk_alloc ?_ _)); refine blk_far ?_ NB0_620.out _; (with_reducible repeat (first | refine blk_drewN ?_ _ | refine blk_drew ?_ | refine blk_alloc ?_ _)); exact BK0.out))⟩; have n2_ : Aside0 (w29.heap[g1_]? = some (.cells #[.slice A1_0 l1_0.length c1_0, .slice (some ad610) l1_1.length c1_1] 53 (0, 0))) := ⟨(by rw [hw]; exact (by (with_reducible repeat (first | refine blk_drewN ?_ _ | refine blk_drew ?_ | refine blk_alloc ?_ _)); refine blk_far ?_ NB1_620.out _; (with_reducible repeat (first | refine blk_drewN ?_ _ | refine blk_drew ?_ | refine blk_alloc ?_ _)); refine blk_far ?_ NB1_620.out _; (with_reducible repeat (first | refine blk_drewN ?_ _ | refine blk_drew ?_ | refine blk_alloc ?_ _)); refine blk_far ?_ NB1_620.out _; (with_reducible repeat (first | refine blk_drewN ?_ _ | refine blk_drew ?_ | refine blk_alloc ?_ _)); exact BK1.out))⟩; have n3_ : Aside0 (w29.heap[gb611]? = some (.cells #[.int .i64 ((rd_T39 l1_1 a2).f0), .int .i64 ((rd_T39 l1_1 a2).f1), .int .i64 ((rd_T39 l1_1 a2).f2)] 39 (0, 0))) := ⟨(by rw [hw]; exact (by (with_reducible repeat (first | refine blk_drewN ?_ _ | refine blk_drew ?_ | refine blk_alloc ?_ _)); refine blk_far ?_ NB611_620.out _; (with_reducible repeat (first | refine blk_drewN ?_ _ | refine blk_drew ?_ | refine blk_alloc ?_ _)); refine blk_far ?_ NB611_620.out _; (with_reducible repeat (first | refine blk_drewN ?_ _ | refine blk_drew ?_ | refine blk_alloc ?_ _)); refine blk_far ?_ NB611_620.out _; (with_reducible repeat (first | refine blk_drewN ?_ _ | refine blk_drew ?_ | refine blk_alloc ?_ _)); exact BK611.out))⟩; have n4_ : Aside0 (w29.heap[gb620]? = some (.cells #[.int .i64 ((rd_T39 y615 x32_1).f0), .int .i64 ((rd_T39 y615 x32_1).f1), .int .i64 ((rd_T39 y615 x32_1).f2)] 39 (0, 0))) := ⟨(by rw [hw]; exact (by (with_reducible repeat (first | refine blk_drewN ?_ _ | refine blk_drew ?_ | refine blk_alloc ?_ _)); refine blk_put (cs := #[.int .i64 ((rd_T39 y615 x32_1).f0), .int .i64 ((rd_T39 y615 x32_1).f1), .int .i64 0]) ?_ 2 _ rfl; (with_reducible repeat (first | refine blk_drewN ?_ _ | refine blk_drew ?_ | refine blk_alloc ?_ _)); refine blk_put (cs := #[.int .i64 ((rd_T39 y615 x32_1).f0), .int .i64 0, .int .i64 0]) ?_ 1 _ rfl; (with_reducible repeat (first | refine blk_drewN ?_ _ | refine blk_drew ?_ | refine blk_alloc ?_ _)); refine blk_put (cs := #[.int .i64 0, .int .i64 0, .int .i64 0]) ?_ 0 _ rfl; (with_reducible repeat (first | refine blk_drewN ?_ _ | refine blk_drew ?_ | refine blk_alloc ?_ _)); exact BK620.out))⟩; have n5_ : Aside0 (Below w.heap.size w w29) := ⟨(by rw [hw]; exact Xi)⟩; clear hw; clear HO_8; clear BK0; clear BK1; clear BK611; clear BK620; clear HB; have HO_8 := n0_; have BK0 := n1_; have BK1 := n2_; have BK611 := n3_; have BK620 := n4_; have HB := n5_; clear n0_ n1_ n2_ n3_ n4_ n5_))
   replace HO_8 := Aside0.mk (Kd.R_drew HO_8.out)
   replace BK0 := Aside0.mk (blk_drew BK0.out)
   replace BK1 := Aside0.mk (blk_drew BK1.out)
   replace BK611 := Aside0.mk (blk_drew BK611.out)
   replace BK620 := Aside0.mk (blk_drew BK620.out)
   replace HB := Aside0.mk (below_drew1 HB.out)
   refine start_ (n := 8) (S := fun w' => w'.cell? ⟨g1_, 0, none⟩ = some (.slice A1_0 l1_0.length c1_0) ∧ w'.cell? ⟨g1_, 1, none⟩ = some (.slice (some ad610) l1_1.length c1_1) ∧ w'.cell? ⟨gb620, 0, none⟩ = some (.int .i64 ((rd_T39 y615 x32_1).f0)) ∧ w'.cell? ⟨gb620, 1, none⟩ = some (.int .i64 ((rd_T39 y615 x32_1).f1)) ∧ w'.cell? ⟨gb620, 2, none⟩ = some (.int .i64 ((rd_T39 y615 x32_1).f2)) ∧ w'.cell? ⟨gb611, 0, none⟩ = some (.int .i64 ((rd_T39 l1_1 a2).f0)) ∧ w'.cell? ⟨gb611, 1, none⟩ = some (.int .i64 ((rd_T39 l1_1 a2).f1)) ∧ w'.cell? ⟨gb611, 2, none⟩ = some (.int .i64 ((rd_T39 l1_1 a2).f2))) (ds := []) #[false, false, false, false, false, false, false, false] (by kernel_rfl) rfl rfl ⟨(blk_cell BK1.out 0).trans rfl, (blk_cell BK1.out 1).trans rfl, (blk_cell BK620.out 0).trans rfl, (blk_cell BK620.out 1).trans rfl, (blk_cell BK620.out 2).trans rfl, (blk_cell BK611.out 0).trans rfl, (blk_cell BK611.out 1).trans rfl, (blk_cell BK611.out 2).trans rfl⟩ (fun hHeld => ?_); refine with_tabW impl_Doc_blockers.tab6 impl_Doc_blockers.bits6 (fun HT_ HW_ => ?_)
   generalize w29.drew = w30 at HO_8 BK0 BK1 BK611 BK620 HB hHeld ⊢
   refine Xpu 0 36 (XW.bs 8 1) HT_.out ?_
   refine Xpu 1 37 (XW.bs 8 3) HT_.out ?_
   refine Xpu 2 38 (XW.bs 8 7) HT_.out ?_
   refine Xpu 3 39 (XW.bs 8 15) HT_.out ?_
   refine Xta 4 40 (XW.bs 8 31) HT_.out HW_.out hHeld ?_
   refine Xta 5 41 (XW.bs 8 63) HT_.out HW_.out hHeld ?_
   refine Xta 6 42 (XW.bs 8 127) HT_.out HW_.out hHeld ?_
   refine one_ (i := 7) (N := some 43) (XW.bs 8 255) rfl rfl (one_of HT_.out (by kernel_rfl)) (by decide) (fun K hK => ?_)
   refine goes_ Tryz.func110 (by kernel_rfl) rfl #[.pointer (some ⟨g0_, 0, none⟩), .slice A1_0 l1_0.length c1_0, .agg #[.int .i64 ((rd_T39 y615 x32_1).f0), .int .i64 ((rd_T39 y615 x32_1).f1), .int .i64 ((rd_T39 y615 x32_1).f2)], .agg #[.int .i64 ((rd_T39 l1_1 a2).f0), .int .i64 ((rd_T39 l1_1 a2).f1), .int .i64 ((rd_T39 l1_1 a2).f2)]] (by rfl) rfl rfl (by (try simp only [List.map_toArray, List.map_cons, List.map_nil]); first | done | rfl | (simp only [List.length_drop, List.length_take]; rfl)) ?_
   with_reducible refine (impl_Doc_rival.calls k1 g0_ a0_0 a0_1 A0_2 c0_2 l0_2 _ _ l1_0 ((rd_T39 y615 x32_1).f0) ((rd_T39 y615 x32_1).f1) ((rd_T39 y615 x32_1).f2) ((rd_T39 l1_1 a2).f0) ((rd_T39 l1_1 a2).f1) ((rd_T39 l1_1 a2).f2) t621 _ ?side1 ?side2 ?side3 ?side4 ?side5 A22.out).mono ?_
   (case side1 => exact (Xq' BK0))
   (case side2 => exact Xc HR0_2)
   (case side3 => exact HC0_2.out)
   (case side4 => exact Xc HR1_0)
   (case side5 => exact HC1_0.out)
   rintro e w31 ⟨rfl, hb⟩
   refine ⟨_, rfl, ?_⟩
   replace HO_8 := Aside0.mk (Kd.R_below (Xq HO_8) hb)
   replace BK0 := Xbb BK0 hb
   replace BK1 := Xbb BK1 hb
   replace BK611 := Xbb BK611 hb
   replace BK620 := Xbb BK620 hb
   replace HB := Aside0.mk (below_step Xi hb)
   try clear hb
   try clear hb2
   try clear hk
   try clear hi
   refine hK.out _ _ ⟨(blk_cell BK1.out 0).trans rfl, (blk_cell BK1.out 1).trans rfl, (blk_cell BK620.out 0).trans rfl, (blk_cell BK620.out 1).trans rfl, (blk_cell BK620.out 2).trans rfl, (blk_cell BK611.out 0).trans rfl, (blk_cell BK611.out 1).trans rfl, (blk_cell BK611.out 2).trans rfl⟩ (fun hHeld => ?_)
   clear hK K
   refine Xno ?_
   refine done_ (done_of HT_.out (by kernel_rfl)) ?_
   go_upto_if 43 with (fail)
   have H := HC23.out
   clear HC23
   by_cases c32 : t621 = true
   ·subst c32
    try rw [if_pos rfl] at H
    obtain ⟨c33, H⟩ := Xif H
    have LMc33 := Aside0.mk c33
    clear c33
    obtain ⟨y622, hy622⟩ : ∃ y_ : List Int, y_ = (x8_1 ++ [(rd_T39 y615 x32_1).f0]) := ⟨_, rfl⟩
    replace H : (impl_Doc_blockers.l0 k1 y622 y615 (y615.length : Int) (wrap64 (x32_1 + 1)) a0_0 a0_1 l0_2 l1_0 l1_1 ((rd_T39 l1_1 a2).f0) ((rd_T39 l1_1 a2).f1) ((rd_T39 l1_1 a2).f2)) = some r := by first | (rw [hy622]; with_reducible exact H) | (have H2_ := (Option.bind_some _ _).symm.trans H; rw [hy622]; with_reducible exact H2_) | (have H2_ := (Option.bind_some _ _).symm.trans H; with_reducible exact H2_) | with_reducible exact H | (rw [hy622]; exact H) | exact H
    have Ny622 := Aside0.mk hy622
    clear hy622
    have H' := Aside0.mk H
    clear H
    have hnb34 := NB620_0.out
    have hnc34 := NB0_620.out
    have hnb35 := NB620_1.out
    have hnc35 := NB1_620.out
    have hnb36 := NB620_611.out
    have hnc36 := NB611_620.out
    obtain ⟨hcz37_0, hcz37_1, hcz37_2⟩ := Xc3 BK620
    obtain ⟨hfz37_0, hfz37_1, hfz37_2⟩ := Xf3 BK620
    go_wp2_with (first | ((with_reducible refine gate_builtin (b := .append) (xs := #[.tmp 44, .tmp 47]) rfl ?_); at_builtin; refine Kd.R_append (Kd.int .i64) (w0 := w) w.heap.size rfl (.tmp 44) (.tmp 47) 30 3 (.int .i64 0) 8 rfl Tryz.underlying30 info3 rfl (by decide) (by omega) u8 x8_1 ((rd_T39 y615 x32_1).f0) [.int .i64 ((rd_T39 y615 x32_1).f0)] (fun _ => True) (fun _ => False) rfl rfl ?aP (fun _ hk => hk.elim) ?aF ?aO ?aB ?aS ?aL ?_; (case aP => exact rfl); (case aB => exact Xi); (case aF => exact (fun _ _ => trivial)); (case aO => exact (Xq HO_8)); (case aS => exact (below_size Xi)); (case aL => have := LMc33.out; omega); intro v623 w38 ho hb hg hat; rw [← Ny622.out] at ho; replace BK0 := Aside0.mk (blk_grown (g := g0_) (o := .cells #[.int .i64 a0_0, .int .i64 a0_1, .slice A0_2 l0_2.length c0_2] 35 (0, 0)) (Xq' BK0) hg (Kd.R_ne HO_8.out BK0.out (by decide))); replace BK1 := Aside0.mk (blk_grown (g := g1_) (o := .cells #[.slice A1_0 l1_0.length c1_0, .slice (some ad610) l1_1.length c1_1] 53 (0, 0)) (Xq' BK1) hg (Kd.R_ne HO_8.out BK1.out (by decide))); replace BK611 := Aside0.mk (blk_grown (g := gb611) (o := .cells #[.int .i64 ((rd_T39 l1_1 a2).f0), .int .i64 ((rd_T39 l1_1 a2).f1), .int .i64 ((rd_T39 l1_1 a2).f2)] 39 (0, 0)) (Xq' BK611) hg (Kd.R_ne HO_8.out BK611.out (by decide))); replace BK620 := Aside0.mk (blk_grown (g := gb620) (o := .cells #[.int .i64 ((rd_T39 y615 x32_1).f0), .int .i64 ((rd_T39 y615 x32_1).f1), .int .i64 ((rd_T39 y615 x32_1).f2)] 39 (0, 0)) (Xq' BK620) hg (Kd.R_ne HO_8.out BK620.out (by decide))); replace HB := Aside0.mk (hb); have HO624 := Aside0.mk (ho); clear HO_8; clear ho hb hg hat))
    go_roundg k1
    case measure => have := HK1.out; omega
    case rel => exact ⟨(y622), (wrap64 (x32_1 + 1)), Xr, H', Xk1, (Xp' HO624), (Xp BK0), (Xp BK1), (Xp BK611), ⟨Xi⟩⟩
   replace c32 := Bool.eq_false_iff.mpr c32
   subst c32
   try rw [if_neg (show ¬ (false = true) by decide)] at H
   have H' := Aside0.mk H
   clear H
   go_wp2
   go_roundg k1
   case measure => have := HK1.out; omega
   case rel => exact ⟨(x8_1), (wrap64 (x32_1 + 1)), Xr, H', Xk1, (Xp' HO_8), (Xp BK0), (Xp BK1), (Xp BK611), ⟨Xi⟩⟩
  obtain ⟨t625, A39, H⟩ := Xbi H
  try dsimp only at H
  obtain ⟨t626, A40, H⟩ := Xbi H
  try dsimp only at H
  obtain rfl := Option.some.inj H
  obtain ⟨Ao41, co41, eo41⟩ := Kd.R_slice HO_8.out
  subst eo41
  go_wp2_with (first | ((with_reducible refine gate_callee (f := 111) rfl ?_); refine Xgo 51 Tryz.func111 #[.slice Ao41 x8_1.length co41] ?_; (with_reducible refine (slices_Sort_int_int.calls (fun k_ => some k_ = (.slice Ao41 x8_1.length co41 : Value).ownBlock) (.slice Ao41 x8_1.length co41) x8_1 t625 w _ ?side1 ?side2 A39.out).mono ?_); (case side1 => exact Xi); (case side2 => exact Kd.R_tight rfl HO_8.out); rintro e w42 ⟨rfl, hy0, hb, hkp⟩; refine ⟨_, rfl, ?_⟩; replace BK0 := Aside0.mk (blk_kept (Xq' BK0) hkp (fun hs_ => (fun e_ => (Kd.R_ne HO_8.out BK0.out (by decide)) e_) hs_)); replace BK1 := Aside0.mk (blk_kept (Xq' BK1) hkp (fun hs_ => (fun e_ => (Kd.R_ne HO_8.out BK1.out (by decide)) e_) hs_)); replace BK611 := Aside0.mk (blk_kept (Xq' BK611) hkp (fun hs_ => (fun e_ => (Kd.R_ne HO_8.out BK611.out (by decide)) e_) hs_)); replace HO_8 := Aside0.mk (Kd.R_reok rfl hy0 (fun k_ e_ => HO_8.out.1 k_ e_)); replace HB := Aside0.mk (hb); (try clear hb); (try clear hkp); (try clear hy0)) | ((with_reducible refine gate_callee (f := 112) rfl ?_); refine Xgo 53 Tryz.func112 #[.slice Ao41 x8_1.length co41] ?_; (with_reducible refine (slices_Compact_int_int.calls (fun k_ => some k_ = (.slice Ao41 x8_1.length co41 : Value).ownBlock) (.slice Ao41 x8_1.length co41) t625 t626 w _ ?side1 ?side2 A40.out).mono ?_); (case side1 => exact Xi); (case side2 => exact Kd.R_tight rfl HO_8.out); rintro e w43 ⟨v627, rfl, ho0, hb, hkp⟩; refine ⟨_, rfl, ?_⟩; replace BK0 := Aside0.mk (blk_kept (Xq' BK0) hkp (fun hs_ => (fun e_ => (Kd.R_ne HO_8.out BK0.out (by decide)) e_) hs_)); replace BK1 := Aside0.mk (blk_kept (Xq' BK1) hkp (fun hs_ => (fun e_ => (Kd.R_ne HO_8.out BK1.out (by decide)) e_) hs_)); replace BK611 := Aside0.mk (blk_kept (Xq' BK611) hkp (fun hs_ => (fun e_ => (Kd.R_ne HO_8.out BK611.out (by decide)) e_) hs_)); have HO628 := Aside0.mk (Kd.R_mono (ok' := fun k_ => True) ho0 (fun k_ hk_ => trivial)); replace HB := Aside0.mk (hb); clear HO_8; (try clear hb); (try clear hkp); (try clear ho0)))
  go_ret
  exact ⟨_, Xe, Xq HO628, Xi⟩
 exact absurd H (by simp)
def impl_BlockersOf.f (k : Nat) (a0_0 : Int) (a0_1 : Int) (l0_2 : List (S113)) (l1_0 : List (S39)) (l1_1 : List (S39)) (a2 : Int) : Option (List Int × Int) := (impl_tableCode.f k a0_0 a0_1 l0_2 l1_0 l1_1 a2).bind fun t631 => (if t631 = 0 then ((impl_Table_waiting.f k l1_0 l1_1 a2).bind fun t632 => (if t632 < 0 then (some (([] : List Int), 5)) else ((impl_Doc_blockers.f k a0_0 a0_1 l0_2 l1_0 l1_1 t632).bind fun t633 => (some (t633, 0))))) else (some (([] : List Int), t631)))
theorem impl_BlockersOf.calls (k : Nat) (a0_0 : Int) (a0_1 : Int) (A0_2 : Option Addr) (c0_2 : Nat) (l0_2 : List (S113)) (A1_0 : Option Addr) (c1_0 : Nat) (l1_0 : List (S39)) (A1_1 : Option Addr) (c1_1 : Nat) (l1_1 : List (S39)) (a2 : Int) (r1 : List Int) (r2 : Int) (w : World) (hr0_2 : Kd.C k113 w A0_2 l0_2.length l0_2) (hc0_2 : l0_2.length ≤ c0_2) (hr1_0 : Kd.C k39 w A1_0 l1_0.length l1_0) (hc1_0 : l1_0.length ≤ c1_0) (hr1_1 : Kd.C k39 w A1_1 l1_1.length l1_1) (hc1_1 : l1_1.length ≤ c1_1) (h : impl_BlockersOf.f k a0_0 a0_1 l0_2 l1_0 l1_1 a2 = some (r1, r2)) :
  Calls Tryz.prog 24 #[.agg #[.int .i64 a0_0, .int .i64 a0_1, .slice A0_2 l0_2.length c0_2], .agg #[.slice A1_0 l1_0.length c1_0, .slice A1_1 l1_1.length c1_1], .int .i64 a2] w fun e w' => ∃ v0_ : Value, e = .returned (.tuple #[v0_, .int .i64 r2]) ∧ Kd.R (Kd.int .i64) 3 w' w.heap.size (fun _ => True) v0_ r1 ∧ Below w.heap.size w w' := by
 have hu35 := Tryz.underlying35
 have hu53 := Tryz.underlying53
 have HR0_2 := Aside0.mk hr0_2
 have HC0_2 := Aside0.mk hc0_2
 clear hr0_2 hc0_2
 have HR1_0 := Aside0.mk hr1_0
 have HC1_0 := Aside0.mk hc1_0
 clear hr1_0 hc1_0
 have HR1_1 := Aside0.mk hr1_1
 have HC1_1 := Aside0.mk hc1_1
 clear hr1_1 hc1_1
 have HB := Aside0.mk (Below.refl w.heap.size w)
 have H : ((impl_tableCode.f k a0_0 a0_1 l0_2 l1_0 l1_1 a2).bind fun t631 => (if t631 = 0 then ((impl_Table_waiting.f k l1_0 l1_1 a2).bind fun t632 => (if t632 < 0 then (some (([] : List Int), 5)) else ((impl_Doc_blockers.f k a0_0 a0_1 l0_2 l1_0 l1_1 t632).bind fun t633 => (some (t633, 0))))) else (some (([] : List Int), t631)))) = some (r1, r2) := h
 clear h
 obtain ⟨t631, A4, H⟩ := Xbi H
 try dsimp only at H
 have HC5 := Aside0.mk H
 clear H
 go_enter Tryz.func24, Tryz.ntmps24
 go_upto_if 15 with (first | ((with_reducible refine gate_dst (N := 3) rfl ?_); refine Xbox 3 #[.int .i64 a0_0, .int .i64 a0_1, .slice A0_2 l0_2.length c0_2] 35 ?_; intro gb629 hg w6 hbox hb; have BK629 := Aside0.mk (hbox); have GE629 := Xge hg Xi; replace HB := Aside0.mk (below_step Xi hb); clear hb hbox hg) | ((with_reducible refine gate_dst (N := 4) rfl ?_); refine Xbox 4 #[.slice A1_0 l1_0.length c1_0, .slice A1_1 l1_1.length c1_1] 53 ?_; intro gb630 hg w7 hbox hb; have BK630 := Aside0.mk (hbox); have GE630 := Xge hg Xi; replace HB := Aside0.mk (below_step Xi hb); have NB629_630 := Xnb hg BK629; have NB630_629 := Xns NB629_630; replace BK629 := Xbb BK629 hb; clear hb hbox hg; have hnb8 := NB629_630.out; have hnc8 := NB630_629.out; obtain ⟨hcz9_0, hcz9_1, hcz9_2⟩ := Xc3 BK629; obtain ⟨hcz10_0, hcz10_1⟩ := Xc2 BK630) | ((with_reducible refine gate_callee (f := 57) rfl ?_); refine Xgo 13 Tryz.func57 #[.agg #[.int .i64 a0_0, .int .i64 a0_1, .slice A0_2 l0_2.length c0_2], .agg #[.slice A1_0 l1_0.length c1_0, .slice A1_1 l1_1.length c1_1], .int .i64 a2] ?_; (with_reducible refine (impl_tableCode.calls k a0_0 a0_1 _ _ l0_2 _ _ l1_0 _ _ l1_1 a2 t631 _ ?side1 ?side2 ?side3 ?side4 ?side5 ?side6 A4.out).mono ?_); (case side1 => exact Xc HR0_2); (case side2 => exact HC0_2.out); (case side3 => exact Xc HR1_0); (case side4 => exact HC1_0.out); (case side5 => exact Xc HR1_1); (case side6 => exact HC1_1.out); rintro e w11 ⟨rfl, hb⟩; refine ⟨_, rfl, ?_⟩; replace BK629 := Xbb BK629 hb; replace BK630 := Xbb BK630 hb; replace HB := Aside0.mk (below_step Xi hb); clear hb))
 have H := HC5.out
 clear HC5
 obtain ⟨c12, H⟩ | ⟨c12, H⟩ := Xiu H
 ·have c12b0 : (t631 == 0) = true := beq_iff_eq.mpr c12
  have c12b1 : (t631 != 0) = false := bne_eq_false_iff_eq.mpr c12
  clear c12
  (first | rw [c12b0] | (simp only [i64_w, i32_w]; rw [c12b0]) | skip)
  obtain ⟨t632, A13, H⟩ := Xbi H
  try dsimp only at H
  have HC14 := Aside0.mk H
  clear H
  go_upto_if 20 with (first | ((with_reducible refine gate_callee (f := 58) rfl ?_); refine Xgo 18 Tryz.func58 #[.pointer (some ⟨gb630, 0, none⟩), .int .i64 a2] ?_; (with_reducible refine (impl_Table_waiting.calls k gb630 A1_0 c1_0 l1_0 A1_1 c1_1 l1_1 a2 t632 _ ?side1 ?side2 ?side3 ?side4 ?side5 A13.out).mono ?_); (case side1 => exact BK630.out); (case side2 => exact Xc HR1_0); (case side3 => exact HC1_0.out); (case side4 => exact Xc HR1_1); (case side5 => exact HC1_1.out); rintro e w15 ⟨rfl, hb⟩; refine ⟨_, rfl, ?_⟩; replace BK629 := Xbb BK629 hb; replace BK630 := Xbb BK630 hb; replace HB := Aside0.mk (below_step Xi hb); clear hb))
  have H := HC14.out
  clear HC14
  obtain ⟨c16b0, H⟩ | ⟨c16b0, H⟩ := Xit H
  ·(first | rw [c16b0] | (simp only [i64_w, i32_w]; rw [c16b0]) | skip)
   simp only [Option.some.injEq, Prod.mk.injEq] at H
   obtain ⟨rfl, rfl⟩ := H
   go_wp2
   go_ret2
   exact ⟨_, Xe, by first | exact Kd.R_nil _ _ _ _ _ | exact Kd.N_nil _ _ _ _ _ | exact Kd.V_nil _ _ _ _ _ | exact Kd.Q_nil _ _ _ _ _ | exact Kd.S_nil _ _ _ _ _, Xi⟩
  (first | rw [c16b0] | (simp only [i64_w, i32_w]; rw [c16b0]) | skip)
  obtain ⟨t633, A17, H⟩ := Xbi H
  try dsimp only at H
  simp only [Option.some.injEq, Prod.mk.injEq] at H
  obtain ⟨rfl, rfl⟩ := H
  go_wp2_with (first | ((with_reducible refine gate_callee (f := 59) rfl ?_); refine Xgo 22 Tryz.func59 #[.pointer (some ⟨gb629, 0, none⟩), .pointer (some ⟨gb630, 0, none⟩), .int .i64 t632] ?_; (with_reducible refine (impl_Doc_blockers.calls k gb629 a0_0 a0_1 A0_2 c0_2 l0_2 gb630 A1_0 c1_0 l1_0 A1_1 c1_1 l1_1 t632 t633 _ ?side1 ?side2 ?side3 ?side4 ?side5 ?side6 ?side7 ?side8 A17.out).mono ?_); (case side1 => exact BK629.out); (case side2 => exact Xc HR0_2); (case side3 => exact HC0_2.out); (case side4 => exact BK630.out); (case side5 => exact Xc HR1_0); (case side6 => exact HC1_0.out); (case side7 => exact Xc HR1_1); (case side8 => exact HC1_1.out); rintro e w18 ⟨v634, rfl, ho0, hb⟩; refine ⟨_, rfl, ?_⟩; have HO635 := Aside0.mk (Kd.R_lower ho0 (below_size Xi)); replace BK629 := Xbb BK629 hb; replace BK630 := Xbb BK630 hb; replace HB := Aside0.mk (below_step Xi hb); clear hb; (try clear ho0)))
  go_ret2
  exact ⟨_, Xe, Xq HO635, Xi⟩
 have c12b0 : (t631 == 0) = false := beq_eq_false_iff_ne.mpr c12
 have c12b1 : (t631 != 0) = true := bne_iff_ne.mpr c12
 (first | rw [c12b0] | (simp only [i64_w, i32_w]; rw [c12b0]) | skip)
 simp only [Option.some.injEq, Prod.mk.injEq] at H
 obtain ⟨rfl, rfl⟩ := H
 go_wp2
 go_ret2
 exact ⟨_, Xe, by first | exact Kd.R_nil _ _ _ _ _ | exact Kd.N_nil _ _ _ _ _ | exact Kd.V_nil _ _ _ _ _ | exact Kd.Q_nil _ _ _ _ _ | exact Kd.S_nil _ _ _ _ _, Xi⟩
def laws_eqHold.f (a0_0 : Int) (a0_1 : Int) (a0_2 : Int) (a1_0 : Int) (a1_1 : Int) (a1_2 : Int) : Option (Bool) := if a0_0 = a1_0 then (if a0_1 = a1_1 then (if a0_2 = a1_2 then (some true) else (some false)) else (some false)) else (some false)
theorem laws_eqHold.calls (a0_0 : Int) (a0_1 : Int) (a0_2 : Int) (a1_0 : Int) (a1_1 : Int) (a1_2 : Int) (r : Bool) (w : World) (h : laws_eqHold.f a0_0 a0_1 a0_2 a1_0 a1_1 a1_2 = some r) :
  Calls Tryz.prog 52 #[.agg #[.int .i64 a0_0, .int .i64 a0_1, .int .i64 a0_2], .agg #[.int .i64 a1_0, .int .i64 a1_1, .int .i64 a1_2]] w fun e w' => e = .returned (.bool r) ∧ Below w.heap.size w w' := by
 have hu39 := Tryz.underlying39
 have HB := Aside0.mk (Below.refl w.heap.size w)
 have H : (if a0_0 = a1_0 then (if a0_1 = a1_1 then (if a0_2 = a1_2 then (some true) else (some false)) else (some false)) else (some false)) = some r := h
 clear h
 have HC3 := Aside0.mk H
 clear H
 go_enter Tryz.func52, Tryz.ntmps52
 go_upto_if 9 with (first | ((with_reducible refine gate_dst (N := 2) rfl ?_); refine Xbox 2 #[.int .i64 a0_0, .int .i64 a0_1, .int .i64 a0_2] 39 ?_; intro gb636 hg w4 hbox hb; have BK636 := Aside0.mk (hbox); have GE636 := Xge hg Xi; replace HB := Aside0.mk (below_step Xi hb); clear hb hbox hg) | ((with_reducible refine gate_dst (N := 3) rfl ?_); refine Xbox 3 #[.int .i64 a1_0, .int .i64 a1_1, .int .i64 a1_2] 39 ?_; intro gb637 hg w5 hbox hb; have BK637 := Aside0.mk (hbox); have GE637 := Xge hg Xi; replace HB := Aside0.mk (below_step Xi hb); have NB636_637 := Xnb hg BK636; have NB637_636 := Xns NB636_637; replace BK636 := Xbb BK636 hb; clear hb hbox hg; have hnb6 := NB636_637.out; have hnc6 := NB637_636.out; obtain ⟨hcz7_0, hcz7_1, hcz7_2⟩ := Xc3 BK636; obtain ⟨hcz8_0, hcz8_1, hcz8_2⟩ := Xc3 BK637))
 have H := HC3.out
 clear HC3
 obtain ⟨c9, H⟩ | ⟨c9, H⟩ := Xiu H
 ·have c9b0 : (a0_0 == a1_0) = true := beq_iff_eq.mpr c9
  have c9b1 : (a0_0 != a1_0) = false := bne_eq_false_iff_eq.mpr c9
  clear c9
  (first | rw [c9b0] | (simp only [i64_w, i32_w]; rw [c9b0]) | skip)
  obtain ⟨c10, H⟩ | ⟨c10, H⟩ := Xiu H
  ·have c10b0 : (a0_1 == a1_1) = true := beq_iff_eq.mpr c10
   have c10b1 : (a0_1 != a1_1) = false := bne_eq_false_iff_eq.mpr c10
   clear c10
   obtain ⟨c11, H⟩ | ⟨c11, H⟩ := Xiu H
   ·have c11b0 : (a0_2 == a1_2) = true := beq_iff_eq.mpr c11
    have c11b1 : (a0_2 != a1_2) = false := bne_eq_false_iff_eq.mpr c11
    clear c11
    obtain rfl := Option.some.inj H
    have hnb12 := NB636_637.out
    have hnc12 := NB637_636.out
    obtain ⟨hcz13_0, hcz13_1, hcz13_2⟩ := Xc3 BK636
    obtain ⟨hcz14_0, hcz14_1, hcz14_2⟩ := Xc3 BK637
    go_wp2
    go_ret
    exact ⟨Xe, Xi⟩
   have c11b0 : (a0_2 == a1_2) = false := beq_eq_false_iff_ne.mpr c11
   have c11b1 : (a0_2 != a1_2) = true := bne_iff_ne.mpr c11
   obtain rfl := Option.some.inj H
   have hnb15 := NB636_637.out
   have hnc15 := NB637_636.out
   obtain ⟨hcz16_0, hcz16_1, hcz16_2⟩ := Xc3 BK636
   obtain ⟨hcz17_0, hcz17_1, hcz17_2⟩ := Xc3 BK637
   go_wp2
   go_ret
   exact ⟨Xe, Xi⟩
  have c10b0 : (a0_1 == a1_1) = false := beq_eq_false_iff_ne.mpr c10
  have c10b1 : (a0_1 != a1_1) = true := bne_iff_ne.mpr c10
  obtain rfl := Option.some.inj H
  have hnb18 := NB636_637.out
  have hnc18 := NB637_636.out
  obtain ⟨hcz19_0, hcz19_1, hcz19_2⟩ := Xc3 BK636
  obtain ⟨hcz20_0, hcz20_1, hcz20_2⟩ := Xc3 BK637
  go_wp2
  go_ret
  exact ⟨Xe, Xi⟩
 have c9b0 : (a0_0 == a1_0) = false := beq_eq_false_iff_ne.mpr c9
 have c9b1 : (a0_0 != a1_0) = true := bne_iff_ne.mpr c9
 (first | rw [c9b0] | (simp only [i64_w, i32_w]; rw [c9b0]) | skip)
 obtain rfl := Option.some.inj H
 go_wp2
 go_ret
 exact ⟨Xe, Xi⟩
def laws_eqHoldS.l0 : Nat → List (S39) → List (S39) → Int → Option (Bool)
 | 0, _, _, _ => none
 | k + 1, x0, x1, x5 => if x5 < (x0.length : Int) then (if 0 ≤ x5 then (if x5 < (x1.length : Int) then ((laws_eqHold.f ((rd_T39 x0 x5).f0) ((rd_T39 x0 x5).f1) ((rd_T39 x0 x5).f2) ((rd_T39 x1 x5).f0) ((rd_T39 x1 x5).f1) ((rd_T39 x1 x5).f2)).bind fun t640 => (if t640 = true then (laws_eqHoldS.l0 k x0 x1 (wrap64 (x5 + 1))) else (some false))) else (none)) else (none)) else (some true)
def laws_eqHoldS.f (k : Nat) (l0 : List (S39)) (l1 : List (S39)) : Option (Bool) := if (l0.length : Int) = (l1.length : Int) then (laws_eqHoldS.l0 k l0 l1 0) else (some false)
def laws_eqHoldS.T6 : Bool × List (List Nat × List Nat) := (true, [([], []), ([], []), ([0, 1], [0, 1]), ([2], [2]), ([], []), ([], []), ([4, 5], [4, 5]), ([6], [6]), ([3, 7], [3, 7]), ([8], [8])])
def laws_eqHoldS.B6 : List Nat := [0, 0, 3, 7, 0, 0, 48, 112, 255, 511]
theorem laws_eqHoldS.tab6 : rtab .any (opsOf Tryz.f16 6) = laws_eqHoldS.T6 := by kernel_rfl
theorem laws_eqHoldS.bits6 : waitsOk laws_eqHoldS.T6.2 laws_eqHoldS.B6 = true := by kernel_rfl
theorem laws_eqHoldS.calls (k : Nat) (A0 : Option Addr) (c0 : Nat) (l0 : List (S39)) (A1 : Option Addr) (c1 : Nat) (l1 : List (S39)) (r : Bool) (w : World) (hr0 : Kd.C k39 w A0 l0.length l0) (hc0 : l0.length ≤ c0) (hr1 : Kd.C k39 w A1 l1.length l1) (hc1 : l1.length ≤ c1) (h : laws_eqHoldS.f k l0 l1 = some r) :
  Calls Tryz.prog 16 #[.slice A0 l0.length c0, .slice A1 l1.length c1] w fun e w' => e = .returned (.bool r) ∧ Below w.heap.size w w' := by
 have hu39 := Tryz.underlying39
 have HR0 := Aside0.mk hr0
 have HC0 := Aside0.mk hc0
 clear hr0 hc0
 have HR1 := Aside0.mk hr1
 have HC1 := Aside0.mk hc1
 clear hr1 hc1
 have HB := Aside0.mk (Below.refl w.heap.size w)
 have H : (if (l0.length : Int) = (l1.length : Int) then (laws_eqHoldS.l0 k l0 l1 0) else (some false)) = some r := h
 clear h
 obtain ⟨c3, H⟩ | ⟨c3, H⟩ := Xiu H
 ·have c3b0 : ((l0.length : Int) == (l1.length : Int)) = true := beq_iff_eq.mpr c3
  have c3b1 : ((l0.length : Int) != (l1.length : Int)) = false := bne_eq_false_iff_eq.mpr c3
  have c3b2 : (l0.length == l1.length) = true := by first | simpa using c3 | (simp at c3 ⊢; omega)
  clear c3
  have H' := Aside0.mk H
  clear H
  go_enter Tryz.func16, Tryz.ntmps16
  go_wp2
  go_loopg [5] k (fun kq v5 w' => ∃ (x5_1 : Int), v5 = .int .i64 x5_1 ∧ Aside0 (laws_eqHoldS.l0 kq l0 l1 x5_1 = some r) ∧ Aside0 (kq ≤ k) ∧ Aside0 (Below w.heap.size w w'))
  case atStart => exact ⟨(0), Xr, H', Xkr, ⟨Xi⟩⟩
  clear H'
  (try clear c1); (try clear c3); (try clear c3b0); (try clear c3b1); (try clear c3b2)
  obtain ⟨x5_1, rfl, HA, HK1, HB⟩ := hrel
  cases gk with | zero => cases HA.out | succ k1 => ?_
  have H := HA.out
  clear HA
  simp only [laws_eqHoldS.l0] at H
  obtain ⟨c4b0, H⟩ | ⟨c4b0, H⟩ := Xit H
  ·obtain ⟨c5b0, H⟩ := Xid H
   obtain ⟨c6b0, H⟩ := Xid H
   obtain ⟨t640, A7, H⟩ := Xbi H
   try dsimp only at H
   have HC8 := Aside0.mk H
   clear H
   try go_wp2_with (fail)
   replace HB := Aside0.mk (below_drew1 HB.out)
   have p638 : 0 ≤ (x5_1 : Int) := of_decide_eq_true Xa
   have q638 : x5_1 < (l0.length : Int) := of_decide_eq_true Xa
   obtain ⟨ad638, e638, hx638_0, hx638_1, hx638_2⟩ := at_T39 HR0.out x5_1 p638 q638
   have hw638_2 := hx638_2
   have hw638_1 := hx638_1
   have hw638_0 := hx638_0
   cases e638
   replace hx638_0 := Xm HB hx638_0
   replace hx638_1 := Xm HB hx638_1
   replace hx638_2 := Xm HB hx638_2
   replace p638 := eq_true p638
   replace q638 := eq_true q638
   have p639 : 0 ≤ (x5_1 : Int) := of_decide_eq_true Xa
   have q639 : x5_1 < (l1.length : Int) := of_decide_eq_true Xa
   obtain ⟨ad639, e639, hx639_0, hx639_1, hx639_2⟩ := at_T39 HR1.out x5_1 p639 q639
   have hw639_2 := hx639_2
   have hw639_1 := hx639_1
   have hw639_0 := hx639_0
   cases e639
   replace hx639_0 := Xm HB hx639_0
   replace hx639_1 := Xm HB hx639_1
   replace hx639_2 := Xm HB hx639_2
   replace p639 := eq_true p639
   replace q639 := eq_true q639
   refine start_ (n := 10) (S := fun w' => w'.cell? (ad638.add ((x5_1).toNat * 3)) = some (.int .i64 ((rd_T39 l0 x5_1).f0)) ∧ w'.cell? ⟨(ad638.add ((x5_1).toNat * 3)).block, (ad638.add ((x5_1).toNat * 3)).off + 1, none⟩ = some (.int .i64 ((rd_T39 l0 x5_1).f1)) ∧ w'.cell? ⟨(ad638.add ((x5_1).toNat * 3)).block, (ad638.add ((x5_1).toNat * 3)).off + 2, none⟩ = some (.int .i64 ((rd_T39 l0 x5_1).f2)) ∧ w'.cell? (ad639.add ((x5_1).toNat * 3)) = some (.int .i64 ((rd_T39 l1 x5_1).f0)) ∧ w'.cell? ⟨(ad639.add ((x5_1).toNat * 3)).block, (ad639.add ((x5_1).toNat * 3)).off + 1, none⟩ = some (.int .i64 ((rd_T39 l1 x5_1).f1)) ∧ w'.cell? ⟨(ad639.add ((x5_1).toNat * 3)).block, (ad639.add ((x5_1).toNat * 3)).off + 2, none⟩ = some (.int .i64 ((rd_T39 l1 x5_1).f2))) (ds := []) #[false, false, false, false, false, false, false, false, false, false] (by kernel_rfl) rfl rfl ⟨Xn hw638_0, Xn hw638_1, Xn hw638_2, Xn hw639_0, Xn hw639_1, Xn hw639_2⟩ (fun hHeld => ?_); refine with_tabW laws_eqHoldS.tab6 laws_eqHoldS.bits6 (fun HT_ HW_ => ?_)
   generalize wr.drew = w9 at HB hx638_0 hx638_1 hx638_2 hx639_0 hx639_1 hx639_2 hHeld ⊢
   refine Xpu 0 17 (XW.bs 10 1) HT_.out ?_
   refine Xpu 1 18 (XW.bs 10 3) HT_.out ?_
   refine Xpu 2 19 (XW.bs 10 7) HT_.out ?_
   refine Xpu 4 21 (XW.bs 10 23) HT_.out ?_
   refine Xpu 5 22 (XW.bs 10 55) HT_.out ?_
   refine Xpu 6 23 (XW.bs 10 119) HT_.out ?_
   refine Xta 3 20 (XW.bs 10 127) HT_.out HW_.out hHeld ?_
   refine Xta 7 24 (XW.bs 10 255) HT_.out HW_.out hHeld ?_
   refine one_ (i := 8) (N := some 25) (XW.bs 10 511) rfl rfl (one_of HT_.out (by kernel_rfl)) (by decide) (fun K hK => ?_)
   refine goes_ Tryz.func52 (by kernel_rfl) rfl #[.agg #[.int .i64 ((rd_T39 l0 x5_1).f0), .int .i64 ((rd_T39 l0 x5_1).f1), .int .i64 ((rd_T39 l0 x5_1).f2)], .agg #[.int .i64 ((rd_T39 l1 x5_1).f0), .int .i64 ((rd_T39 l1 x5_1).f1), .int .i64 ((rd_T39 l1 x5_1).f2)]] (by rfl) rfl rfl (by (try simp only [List.map_toArray, List.map_cons, List.map_nil]); first | done | rfl | (simp only [List.length_drop, List.length_take]; rfl)) ?_
   with_reducible refine (laws_eqHold.calls ((rd_T39 l0 x5_1).f0) ((rd_T39 l0 x5_1).f1) ((rd_T39 l0 x5_1).f2) ((rd_T39 l1 x5_1).f0) ((rd_T39 l1 x5_1).f1) ((rd_T39 l1 x5_1).f2) t640 _ A7.out).mono ?_
   rintro e w10 ⟨rfl, hb⟩
   refine ⟨_, rfl, ?_⟩
   replace HB := Aside0.mk (below_step Xi hb)
   try clear hb
   try clear hb2
   try clear hk
   try clear hi
   refine hK.out _ _ ⟨Xn hw638_0, Xn hw638_1, Xn hw638_2, Xn hw639_0, Xn hw639_1, Xn hw639_2⟩ (fun hHeld => ?_)
   clear hK K
   refine Xno ?_
   refine Xpu 9 26 (XW.bs 10 1023) HT_.out ?_
   refine done_ (done_of HT_.out (by kernel_rfl)) ?_
   go_upto_if 26 with (fail)
   have H := HC8.out
   clear HC8
   by_cases c11 : t640 = true
   ·subst c11
    try rw [if_pos rfl] at H
    have H' := Aside0.mk H
    clear H
    go_wp2
    go_roundg k1
    case measure => have := HK1.out; omega
    case rel => exact ⟨(wrap64 (x5_1 + 1)), Xr, H', Xk1, ⟨Xi⟩⟩
   replace c11 := Bool.eq_false_iff.mpr c11
   subst c11
   try rw [if_neg (show ¬ (false = true) by decide)] at H
   obtain rfl := Option.some.inj H
   go_wp2
   go_ret
   exact ⟨Xe, Xi⟩
  obtain rfl := Option.some.inj H
  go_wp2
  go_ret
  exact ⟨Xe, Xi⟩
 have c3b0 : ((l0.length : Int) == (l1.length : Int)) = false := beq_eq_false_iff_ne.mpr c3
 have c3b1 : ((l0.length : Int) != (l1.length : Int)) = true := bne_iff_ne.mpr c3
 have c3b2 : (l0.length == l1.length) = false := by first | simpa using c3 | (simp at c3 ⊢; omega)
 obtain rfl := Option.some.inj H
 go_enter Tryz.func16, Tryz.ntmps16
 go_wp2
 go_ret
 exact ⟨Xe, Xi⟩
def laws_eqTable.f (k : Nat) (l0_0 : List (S39)) (l0_1 : List (S39)) (l1_0 : List (S39)) (l1_1 : List (S39)) : Option (Bool) := (laws_eqHoldS.f k l0_0 l1_0).bind fun t643 => (if t643 = true then ((laws_eqHoldS.f k l0_1 l1_1).bind fun t644 => (if t644 = true then (some true) else (some false))) else (some false))
theorem laws_eqTable.calls (k : Nat) (A0_0 : Option Addr) (c0_0 : Nat) (l0_0 : List (S39)) (A0_1 : Option Addr) (c0_1 : Nat) (l0_1 : List (S39)) (A1_0 : Option Addr) (c1_0 : Nat) (l1_0 : List (S39)) (A1_1 : Option Addr) (c1_1 : Nat) (l1_1 : List (S39)) (r : Bool) (w : World) (hr0_0 : Kd.C k39 w A0_0 l0_0.length l0_0) (hc0_0 : l0_0.length ≤ c0_0) (hr0_1 : Kd.C k39 w A0_1 l0_1.length l0_1) (hc0_1 : l0_1.length ≤ c0_1) (hr1_0 : Kd.C k39 w A1_0 l1_0.length l1_0) (hc1_0 : l1_0.length ≤ c1_0) (hr1_1 : Kd.C k39 w A1_1 l1_1.length l1_1) (hc1_1 : l1_1.length ≤ c1_1) (h : laws_eqTable.f k l0_0 l0_1 l1_0 l1_1 = some r) :
  Calls Tryz.prog 25 #[.agg #[.slice A0_0 l0_0.length c0_0, .slice A0_1 l0_1.length c0_1], .agg #[.slice A1_0 l1_0.length c1_0, .slice A1_1 l1_1.length c1_1]] w fun e w' => e = .returned (.bool r) ∧ Below w.heap.size w w' := by
 have hu53 := Tryz.underlying53
 have HR0_0 := Aside0.mk hr0_0
 have HC0_0 := Aside0.mk hc0_0
 clear hr0_0 hc0_0
 have HR0_1 := Aside0.mk hr0_1
 have HC0_1 := Aside0.mk hc0_1
 clear hr0_1 hc0_1
 have HR1_0 := Aside0.mk hr1_0
 have HC1_0 := Aside0.mk hc1_0
 clear hr1_0 hc1_0
 have HR1_1 := Aside0.mk hr1_1
 have HC1_1 := Aside0.mk hc1_1
 clear hr1_1 hc1_1
 have HB := Aside0.mk (Below.refl w.heap.size w)
 have H : ((laws_eqHoldS.f k l0_0 l1_0).bind fun t643 => (if t643 = true then ((laws_eqHoldS.f k l0_1 l1_1).bind fun t644 => (if t644 = true then (some true) else (some false))) else (some false))) = some r := h
 clear h
 obtain ⟨t643, A3, H⟩ := Xbi H
 try dsimp only at H
 have HC4 := Aside0.mk H
 clear H
 go_enter Tryz.func25, Tryz.ntmps25
 go_upto_if 10 with (first | ((with_reducible refine gate_dst (N := 2) rfl ?_); refine Xbox 2 #[.slice A0_0 l0_0.length c0_0, .slice A0_1 l0_1.length c0_1] 53 ?_; intro gb641 hg w5 hbox hb; have BK641 := Aside0.mk (hbox); have GE641 := Xge hg Xi; replace HB := Aside0.mk (below_step Xi hb); clear hb hbox hg) | ((with_reducible refine gate_dst (N := 3) rfl ?_); refine Xbox 3 #[.slice A1_0 l1_0.length c1_0, .slice A1_1 l1_1.length c1_1] 53 ?_; intro gb642 hg w6 hbox hb; have BK642 := Aside0.mk (hbox); have GE642 := Xge hg Xi; replace HB := Aside0.mk (below_step Xi hb); have NB641_642 := Xnb hg BK641; have NB642_641 := Xns NB641_642; replace BK641 := Xbb BK641 hb; clear hb hbox hg; have hnb7 := NB641_642.out; have hnc7 := NB642_641.out; obtain ⟨hcz8_0, hcz8_1⟩ := Xc2 BK641; obtain ⟨hcz9_0, hcz9_1⟩ := Xc2 BK642) | ((with_reducible refine gate_callee (f := 16) rfl ?_); refine Xgo 9 Tryz.func16 #[.slice A0_0 l0_0.length c0_0, .slice A1_0 l1_0.length c1_0] ?_; (with_reducible refine (laws_eqHoldS.calls k _ _ l0_0 _ _ l1_0 t643 _ ?side1 ?side2 ?side3 ?side4 A3.out).mono ?_); (case side1 => exact Xc HR0_0); (case side2 => exact HC0_0.out); (case side3 => exact Xc HR1_0); (case side4 => exact HC1_0.out); rintro e w10 ⟨rfl, hb⟩; refine ⟨_, rfl, ?_⟩; replace BK641 := Xbb BK641 hb; replace BK642 := Xbb BK642 hb; replace HB := Aside0.mk (below_step Xi hb); clear hb))
 have H := HC4.out
 clear HC4
 by_cases c11 : t643 = true
 ·subst c11
  try rw [if_pos rfl] at H
  obtain ⟨t644, A12, H⟩ := Xbi H
  try dsimp only at H
  have HC13 := Aside0.mk H
  clear H
  have hnb14 := NB641_642.out
  have hnc14 := NB642_641.out
  obtain ⟨hcz15_0, hcz15_1⟩ := Xc2 BK641
  obtain ⟨hcz16_0, hcz16_1⟩ := Xc2 BK642
  go_upto_if 16 with (first | ((with_reducible refine gate_callee (f := 16) rfl ?_); refine Xgo 15 Tryz.func16 #[.slice A0_1 l0_1.length c0_1, .slice A1_1 l1_1.length c1_1] ?_; (with_reducible refine (laws_eqHoldS.calls k _ _ l0_1 _ _ l1_1 t644 _ ?side1 ?side2 ?side3 ?side4 A12.out).mono ?_); (case side1 => exact Xc HR0_1); (case side2 => exact HC0_1.out); (case side3 => exact Xc HR1_1); (case side4 => exact HC1_1.out); rintro e w17 ⟨rfl, hb⟩; refine ⟨_, rfl, ?_⟩; replace BK641 := Xbb BK641 hb; replace BK642 := Xbb BK642 hb; replace HB := Aside0.mk (below_step Xi hb); clear hb))
  have H := HC13.out
  clear HC13
  by_cases c18 : t644 = true
  ·subst c18
   try rw [if_pos rfl] at H
   obtain rfl := Option.some.inj H
   go_wp2
   go_ret
   exact ⟨Xe, Xi⟩
  replace c18 := Bool.eq_false_iff.mpr c18
  subst c18
  try rw [if_neg (show ¬ (false = true) by decide)] at H
  obtain rfl := Option.some.inj H
  go_wp2
  go_ret
  exact ⟨Xe, Xi⟩
 replace c11 := Bool.eq_false_iff.mpr c11
 subst c11
 try rw [if_neg (show ¬ (false = true) by decide)] at H
 obtain rfl := Option.some.inj H
 go_wp2
 go_ret
 exact ⟨Xe, Xi⟩
def laws_markHoldS.l0 : Nat → List (S39) → Int → Int → Option (Int × (List (S39)))
 | 0, _, _, _ => none
 | k + 1, x0, x1, x5 => if x5 < (x0.length : Int) then (if 0 ≤ x5 then ((some (x0.set (x5 : Int).toNat (⟨x1, (rd_T39 x0 x5).f1, (rd_T39 x0 x5).f2⟩ : S39) : List (S39))).bind fun y645 => ((some (y645.set (x5 : Int).toNat (⟨(rd_T39 y645 x5).f0, wrap64 (x1 + 1), (rd_T39 y645 x5).f2⟩ : S39) : List (S39))).bind fun y646 => (laws_markHoldS.l0 k (y646.set (x5 : Int).toNat (⟨(rd_T39 y646 x5).f0, (rd_T39 y646 x5).f1, wrap64 ((wrap64 (x1 + 1)) + 1)⟩ : S39)) (wrap64 ((wrap64 ((wrap64 (x1 + 1)) + 1)) + 1)) (wrap64 (x5 + 1))))) else (none)) else (some (x1, x0))
def laws_markHoldS.f (k : Nat) (l0 : List (S39)) (a1 : Int) : Option (Int × (List (S39))) := laws_markHoldS.l0 k l0 a1 0
theorem laws_markHoldS.calls (k : Nat) (P0_ : Nat → Prop) (u9000_ : Value) (l0 : List (S39)) (a1 : Int) (r1 : Int) (r2 : List (S39)) (w0 w : World) (hB : Below w0.heap.size w0 w) (ho0 : Kd.R k39 39 w w0.heap.size P0_ u9000_ l0) (h : laws_markHoldS.f k l0 a1 = some (r1, r2)) :
  Calls Tryz.prog 18 #[u9000_, .int .i64 a1] w fun e w' => e = .returned (.int .i64 r1) ∧ Kd.R k39 39 w' w0.heap.size (fun k_ => (P0_ k_ ∨ w.heap.size ≤ k_)) u9000_ r2 ∧ Below w0.heap.size w0 w' ∧ Kept w w' (fun k_ => P0_ k_) := by
 have HO0 := Aside0.mk (show Kd.R k39 39 w w0.heap.size (fun k_ => (P0_ k_ ∨ w.heap.size ≤ k_)) u9000_ l0 from Kd.R_mono ho0 (fun k_ hk => (.inl hk)))
 have HK := Aside0.mk (Kept.refl w (fun k_ => P0_ k_))
 have HW0 := Aside0.mk hB.size
 have HB := Aside0.mk hB
 clear hB
 have H : (laws_markHoldS.l0 k l0 a1 0) = some (r1, r2) := h
 clear h
 have H' := Aside0.mk H
 clear H
 go_enter Tryz.func18, Tryz.ntmps18
 go_wp2
 go_loopg [1, 5] k (fun kq v1 v5 w' => ∃ (x0_1 : List (S39)) (x1_1 : Int) (x5_1 : Int), v1 = .int .i64 x1_1 ∧ v5 = .int .i64 x5_1 ∧ Aside0 (laws_markHoldS.l0 kq x0_1 x1_1 x5_1 = some (r1, r2)) ∧ Aside0 (kq ≤ k) ∧ Aside0 (Kd.R k39 39 w' w0.heap.size (fun k_ => (P0_ k_ ∨ w.heap.size ≤ k_)) u9000_ x0_1) ∧ Aside0 (Kept w w' (fun k_ => P0_ k_)) ∧ Aside0 (Below w0.heap.size w0 w'))
 case atStart => exact ⟨(l0), (a1), (0), Xr, Xr, H', Xkr, (Xp' HO0), ⟨by repeat first | (with_reducible first | exact HK.out | apply Kept.drewN | apply Kept.drew) | exact HK.out⟩, ⟨Xi⟩⟩
 clear H'
 obtain ⟨x0_1, x1_1, x5_1, rfl, rfl, HA, HK1, HO_0, HK, HB⟩ := hrel
 cases gk with | zero => cases HA.out | succ k1 => ?_
 have H := HA.out
 clear HA
 simp only [laws_markHoldS.l0] at H
 obtain ⟨c3b0, H⟩ | ⟨c3b0, H⟩ := Xit H
 ·obtain ⟨c4b0, H⟩ := Xid H
  obtain ⟨y645, hy645⟩ : ∃ y_ : List (S39), y_ = (x0_1.set (x5_1 : Int).toNat (⟨x1_1, (rd_T39 x0_1 x5_1).f1, (rd_T39 x0_1 x5_1).f2⟩ : S39)) := ⟨_, rfl⟩
  replace H : ((some (y645.set (x5_1 : Int).toNat (⟨(rd_T39 y645 x5_1).f0, wrap64 (x1_1 + 1), (rd_T39 y645 x5_1).f2⟩ : S39) : List (S39))).bind fun y646 => (laws_markHoldS.l0 k1 (y646.set (x5_1 : Int).toNat (⟨(rd_T39 y646 x5_1).f0, (rd_T39 y646 x5_1).f1, wrap64 ((wrap64 (x1_1 + 1)) + 1)⟩ : S39)) (wrap64 ((wrap64 ((wrap64 (x1_1 + 1)) + 1)) + 1)) (wrap64 (x5_1 + 1)))) = some (r1, r2) := by first | (rw [hy645]; with_reducible exact H) | (have H2_ := (Option.bind_some _ _).symm.trans H; rw [hy645]; with_reducible exact H2_) | (have H2_ := (Option.bind_some _ _).symm.trans H; with_reducible exact H2_) | with_reducible exact H | (rw [hy645]; exact H) | exact H
  have Ny645 := Aside0.mk hy645
  clear hy645
  obtain ⟨y646, hy646⟩ : ∃ y_ : List (S39), y_ = (y645.set (x5_1 : Int).toNat (⟨(rd_T39 y645 x5_1).f0, wrap64 (x1_1 + 1), (rd_T39 y645 x5_1).f2⟩ : S39)) := ⟨_, rfl⟩
  replace H : (laws_markHoldS.l0 k1 (y646.set (x5_1 : Int).toNat (⟨(rd_T39 y646 x5_1).f0, (rd_T39 y646 x5_1).f1, wrap64 ((wrap64 (x1_1 + 1)) + 1)⟩ : S39)) (wrap64 ((wrap64 ((wrap64 (x1_1 + 1)) + 1)) + 1)) (wrap64 (x5_1 + 1))) = some (r1, r2) := by first | (rw [hy646]; with_reducible exact H) | (have H2_ := (Option.bind_some _ _).symm.trans H; rw [hy646]; with_reducible exact H2_) | (have H2_ := (Option.bind_some _ _).symm.trans H; with_reducible exact H2_) | with_reducible exact H | (rw [hy646]; exact H) | exact H
  have Ny646 := Aside0.mk hy646
  clear hy646
  obtain ⟨y647, hy647⟩ : ∃ y_ : List (S39), y_ = (y646.set (x5_1 : Int).toNat (⟨(rd_T39 y646 x5_1).f0, (rd_T39 y646 x5_1).f1, wrap64 ((wrap64 (x1_1 + 1)) + 1)⟩ : S39)) := ⟨_, rfl⟩
  replace H : (laws_markHoldS.l0 k1 y647 (wrap64 ((wrap64 ((wrap64 (x1_1 + 1)) + 1)) + 1)) (wrap64 (x5_1 + 1))) = some (r1, r2) := by first | (rw [hy647]; with_reducible exact H) | (have H2_ := (Option.bind_some _ _).symm.trans H; rw [hy647]; with_reducible exact H2_) | (have H2_ := (Option.bind_some _ _).symm.trans H; with_reducible exact H2_) | with_reducible exact H | (rw [hy647]; exact H) | exact H
  have Ny647 := Aside0.mk hy647
  clear hy647
  have H' := Aside0.mk H
  clear H
  obtain ⟨Ao8, co8, eo8⟩ := Kd.R_slice HO_0.out
  subst eo8
  have p5 : 0 ≤ (x5_1 : Int) := of_decide_eq_true Xa
  have q5 : (x5_1 : Int) < ((x0_1.length : Int) : Int) := of_decide_eq_true Xa
  obtain ⟨go5, co5, eo5, gb5, gl5, cl5, HG5⟩ := Kd.R_form HO_0.out (by omega)
  (first | cases eo5 | (injection eo5 with ea_ en_ ec_; (first | subst ea_ | (injection ea_ with ea_; subst ea_)); subst ec_; clear en_))
  have GB5 := Aside0.mk gb5
  have GG5 := Aside0.mk HG5
  clear gb5 gl5 HG5
  have HMgo5 := Aside0.mk (show (P0_ go5 ∨ w.heap.size ≤ go5) from (HO_0.out.1 _ rfl))
  obtain ⟨ce5, hcl5, hM5, hcc5, hfr5⟩ := Kd.R_elem HO_0.out z39 (x5_1 : Int) p5 q5
  obtain rfl := k39_openM hM5
  have hx5_0 : wr.cell? ⟨go5, (x5_1 : Int).toNat * 3, none⟩ = some (.int .i64 ((rd_T39 x0_1 x5_1).f0)) := hcc5 0 _ rfl
  have hx5_1 : wr.cell? ⟨go5, (x5_1 : Int).toNat * 3 + 1, none⟩ = some (.int .i64 ((rd_T39 x0_1 x5_1).f1)) := hcc5 1 _ rfl
  have hx5_2 : wr.cell? ⟨go5, (x5_1 : Int).toNat * 3 + 2, none⟩ = some (.int .i64 ((rd_T39 x0_1 x5_1).f2)) := hcc5 2 _ rfl
  have hf5_0 : wr.frozen? ⟨go5, (x5_1 : Int).toNat * 3, none⟩ = false := hfr5 0
  have hf5_1 : wr.frozen? ⟨go5, (x5_1 : Int).toNat * 3 + 1, none⟩ = false := hfr5 1
  have hf5_2 : wr.frozen? ⟨go5, (x5_1 : Int).toNat * 3 + 2, none⟩ = false := hfr5 2
  clear hcl5 hcc5 hfr5; (try clear hM5)
  replace p5 := eq_true p5
  replace q5 := eq_true q5
  have HX9 := Aside0.mk (show Kd.R k39 39 wr w0.heap.size (fun k_ => (P0_ k_ ∨ w.heap.size ≤ k_)) (.slice (some ⟨go5, 0, none⟩) x0_1.length co8) x0_1 from (Xq HO_0))
  obtain ⟨ce9, hcl9, hM9, hcc9, hfr9⟩ := Kd.R_elem HX9.out z39 (x5_1 : Int) (of_decide_eq_true Xa) (by have h_ : (x5_1 : Int) < ((x0_1.length : Int) : Int) := of_decide_eq_true Xa; first | exact h_ | (have e_ := (Kd.R_reads' HO_0.out).1; omega) | simpa using h_)
  obtain rfl := k39_openM hM9
  have HP9 := Kd.R_seg HX9.out (x5_1 : Int) (of_decide_eq_true Xa) (by have h_ : (x5_1 : Int) < ((x0_1.length : Int) : Int) := of_decide_eq_true Xa; first | exact h_ | (have e_ := (Kd.R_reads' HO_0.out).1; omega) | simpa using h_) (seg := [.int .i64 x1_1]) (j := 0) hcl9 hcc9 (show 1 ≤ 3 from by decide) (x' := (⟨x1_1, (rd_T39 x0_1 x5_1).f1, (rd_T39 x0_1 x5_1).f2⟩ : S39)) (k39_mkM _ _ _ (⟨x1_1, (rd_T39 x0_1 x5_1).f1, (rd_T39 x0_1 x5_1).f2⟩ : S39) ) (fun _ hk => hk)
  have hx9_0 := hcc9 0 _ rfl
  (try simp only [show (k39).sz = 3 from rfl, Nat.mul_one, Nat.add_zero] at hx9_0)
  have hf9_0 := hfr9 0
  (try simp only [show (k39).sz = 3 from rfl, Nat.mul_one, Nat.add_zero] at hf9_0)
  clear hcl9 hcc9 hfr9; (try clear hM9)
  go_wp2_with (first | ((with_reducible refine gate_store (t := 3) (p := 16) rfl ?_); refine store_event (t := 3) (p := 16) (v := ?vo_w10) (w1 := (wr.setCell ⟨go5, (x5_1 : Int).toNat * 3, none⟩ (.int .i64 x1_1))) ?hg ?ho ?hn ?hr ?_; (case ho => rfl); (case hg => rfl); (case hn => rfl); (case hr => first | (go_simp; done) | (go_simp; rfl)); intro w10 hw; have hg : wr.grownBy w10 (some go5) := (by rw [hw]; exact HP9.2); have hp_ : Kd.R k39 39 w10 w0.heap.size (fun k_ => (P0_ k_ ∨ w.heap.size ≤ k_)) (.slice (some ⟨go5, 0, none⟩) x0_1.length co8) y645 := (by rw [hw, Ny645.out]; exact HP9.1); clear HP9; replace HB := Aside0.mk ((by rw [hw]; exact below_set (HB.out) GB5.out : Below w0.heap.size w0 w10)); replace HK := Aside0.mk (Kept.of_grown (S := (fun k_ => P0_ k_)) hg (by repeat first | (with_reducible first | exact HK.out | apply Kept.drewN | apply Kept.drew) | exact HK.out) (fun k_ e_ => (HO_0.out.1 k_ e_))); replace HO_0 := Aside0.mk (hp_); clear hg hw hp_; have p6 : 0 ≤ (x5_1 : Int) := of_decide_eq_true Xa; have q6 : (x5_1 : Int) < ((x0_1.length : Int) : Int) := of_decide_eq_true Xa; obtain ⟨ce6, hcl6, hM6, hcc6, hfr6⟩ := Kd.R_elem HO_0.out z39 (x5_1 : Int) p6 q6; obtain rfl := k39_openM hM6; have hx6_0 : w10.cell? ⟨go5, (x5_1 : Int).toNat * 3, none⟩ = some (.int .i64 ((rd_T39 y645 x5_1).f0)) := hcc6 0 _ rfl; have hx6_1 : w10.cell? ⟨go5, (x5_1 : Int).toNat * 3 + 1, none⟩ = some (.int .i64 ((rd_T39 y645 x5_1).f1)) := hcc6 1 _ rfl; have hx6_2 : w10.cell? ⟨go5, (x5_1 : Int).toNat * 3 + 2, none⟩ = some (.int .i64 ((rd_T39 y645 x5_1).f2)) := hcc6 2 _ rfl; have hf6_0 : w10.frozen? ⟨go5, (x5_1 : Int).toNat * 3, none⟩ = false := hfr6 0; have hf6_1 : w10.frozen? ⟨go5, (x5_1 : Int).toNat * 3 + 1, none⟩ = false := hfr6 1; have hf6_2 : w10.frozen? ⟨go5, (x5_1 : Int).toNat * 3 + 2, none⟩ = false := hfr6 2; clear hcl6 hcc6 hfr6; (try clear hM6); replace p6 := eq_true p6; replace q6 := eq_true q6; have HX11 := Aside0.mk (show Kd.R k39 39 w10 w0.heap.size (fun k_ => (P0_ k_ ∨ w.heap.size ≤ k_)) (.slice (some ⟨go5, 0, none⟩) x0_1.length co8) y645 from (Xq HO_0)); obtain ⟨ce11, hcl11, hM11, hcc11, hfr11⟩ := Kd.R_elem HX11.out z39 (x5_1 : Int) (of_decide_eq_true Xa) (by have h_ : (x5_1 : Int) < ((x0_1.length : Int) : Int) := of_decide_eq_true Xa; first | exact h_ | (have e_ := (Kd.R_reads' HO_0.out).1; omega) | simpa using h_); obtain rfl := k39_openM hM11; have HP11 := Kd.R_seg HX11.out (x5_1 : Int) (of_decide_eq_true Xa) (by have h_ : (x5_1 : Int) < ((x0_1.length : Int) : Int) := of_decide_eq_true Xa; first | exact h_ | (have e_ := (Kd.R_reads' HO_0.out).1; omega) | simpa using h_) (seg := [.int .i64 (wrap64 (x1_1 + 1))]) (j := 1) hcl11 hcc11 (show 2 ≤ 3 from by decide) (x' := (⟨(rd_T39 y645 x5_1).f0, wrap64 (x1_1 + 1), (rd_T39 y645 x5_1).f2⟩ : S39)) (k39_mkM _ _ _ (⟨(rd_T39 y645 x5_1).f0, wrap64 (x1_1 + 1), (rd_T39 y645 x5_1).f2⟩ : S39) ) (fun _ hk => hk); have hx11_1 := hcc11 1 _ rfl; (try simp only [show (k39).sz = 3 from rfl, Nat.mul_one, Nat.add_zero] at hx11_1); have hf11_1 := hfr11 1; (try simp only [show (k39).sz = 3 from rfl, Nat.mul_one, Nat.add_zero] at hf11_1); clear hcl11 hcc11 hfr11; (try clear hM11)) | ((with_reducible refine gate_store (t := 3) (p := 23) rfl ?_); refine store_event (t := 3) (p := 23) (v := ?vo_w12) (w1 := (w10.setCell ⟨go5, (x5_1 : Int).toNat * 3 + 1, none⟩ (.int .i64 (wrap64 (x1_1 + 1))))) ?hg ?ho ?hn ?hr ?_; (case ho => rfl); (case hg => rfl); (case hn => rfl); (case hr => first | (go_simp; done) | (go_simp; rfl)); intro w12 hw; have hg : w10.grownBy w12 (some go5) := (by rw [hw]; exact HP11.2); have hp_ : Kd.R k39 39 w12 w0.heap.size (fun k_ => (P0_ k_ ∨ w.heap.size ≤ k_)) (.slice (some ⟨go5, 0, none⟩) x0_1.length co8) y646 := (by rw [hw, Ny646.out]; exact HP11.1); clear HP11; replace HB := Aside0.mk ((by rw [hw]; exact below_set (HB.out) GB5.out : Below w0.heap.size w0 w12)); replace HK := Aside0.mk (Kept.of_grown (S := (fun k_ => P0_ k_)) hg (by repeat first | (with_reducible first | exact HK.out | apply Kept.drewN | apply Kept.drew) | exact HK.out) (fun k_ e_ => (HO_0.out.1 k_ e_))); replace HO_0 := Aside0.mk (hp_); clear hg hw hp_; have p7 : 0 ≤ (x5_1 : Int) := of_decide_eq_true Xa; have q7 : (x5_1 : Int) < ((x0_1.length : Int) : Int) := of_decide_eq_true Xa; obtain ⟨ce7, hcl7, hM7, hcc7, hfr7⟩ := Kd.R_elem HO_0.out z39 (x5_1 : Int) p7 q7; obtain rfl := k39_openM hM7; have hx7_0 : w12.cell? ⟨go5, (x5_1 : Int).toNat * 3, none⟩ = some (.int .i64 ((rd_T39 y646 x5_1).f0)) := hcc7 0 _ rfl; have hx7_1 : w12.cell? ⟨go5, (x5_1 : Int).toNat * 3 + 1, none⟩ = some (.int .i64 ((rd_T39 y646 x5_1).f1)) := hcc7 1 _ rfl; have hx7_2 : w12.cell? ⟨go5, (x5_1 : Int).toNat * 3 + 2, none⟩ = some (.int .i64 ((rd_T39 y646 x5_1).f2)) := hcc7 2 _ rfl; have hf7_0 : w12.frozen? ⟨go5, (x5_1 : Int).toNat * 3, none⟩ = false := hfr7 0; have hf7_1 : w12.frozen? ⟨go5, (x5_1 : Int).toNat * 3 + 1, none⟩ = false := hfr7 1; have hf7_2 : w12.frozen? ⟨go5, (x5_1 : Int).toNat * 3 + 2, none⟩ = false := hfr7 2; clear hcl7 hcc7 hfr7; (try clear hM7); replace p7 := eq_true p7; replace q7 := eq_true q7; have HX13 := Aside0.mk (show Kd.R k39 39 w12 w0.heap.size (fun k_ => (P0_ k_ ∨ w.heap.size ≤ k_)) (.slice (some ⟨go5, 0, none⟩) x0_1.length co8) y646 from (Xq HO_0)); obtain ⟨ce13, hcl13, hM13, hcc13, hfr13⟩ := Kd.R_elem HX13.out z39 (x5_1 : Int) (of_decide_eq_true Xa) (by have h_ : (x5_1 : Int) < ((x0_1.length : Int) : Int) := of_decide_eq_true Xa; first | exact h_ | (have e_ := (Kd.R_reads' HO_0.out).1; omega) | simpa using h_); obtain rfl := k39_openM hM13; have HP13 := Kd.R_seg HX13.out (x5_1 : Int) (of_decide_eq_true Xa) (by have h_ : (x5_1 : Int) < ((x0_1.length : Int) : Int) := of_decide_eq_true Xa; first | exact h_ | (have e_ := (Kd.R_reads' HO_0.out).1; omega) | simpa using h_) (seg := [.int .i64 (wrap64 ((wrap64 (x1_1 + 1)) + 1))]) (j := 2) hcl13 hcc13 (show 3 ≤ 3 from by decide) (x' := (⟨(rd_T39 y646 x5_1).f0, (rd_T39 y646 x5_1).f1, wrap64 ((wrap64 (x1_1 + 1)) + 1)⟩ : S39)) (k39_mkM _ _ _ (⟨(rd_T39 y646 x5_1).f0, (rd_T39 y646 x5_1).f1, wrap64 ((wrap64 (x1_1 + 1)) + 1)⟩ : S39) ) (fun _ hk => hk); have hx13_2 := hcc13 2 _ rfl; (try simp only [show (k39).sz = 3 from rfl, Nat.mul_one, Nat.add_zero] at hx13_2); have hf13_2 := hfr13 2; (try simp only [show (k39).sz = 3 from rfl, Nat.mul_one, Nat.add_zero] at hf13_2); clear hcl13 hcc13 hfr13; (try clear hM13)) | ((with_reducible refine gate_store (t := 3) (p := 30) rfl ?_); refine store_event (t := 3) (p := 30) (v := ?vo_w14) (w1 := (w12.setCell ⟨go5, (x5_1 : Int).toNat * 3 + 2, none⟩ (.int .i64 (wrap64 ((wrap64 (x1_1 + 1)) + 1))))) ?hg ?ho ?hn ?hr ?_; (case ho => rfl); (case hg => rfl); (case hn => rfl); (case hr => first | (go_simp; done) | (go_simp; rfl)); intro w14 hw; have hg : w12.grownBy w14 (some go5) := (by rw [hw]; exact HP13.2); have hp_ : Kd.R k39 39 w14 w0.heap.size (fun k_ => (P0_ k_ ∨ w.heap.size ≤ k_)) (.slice (some ⟨go5, 0, none⟩) x0_1.length co8) y647 := (by rw [hw, Ny647.out]; exact HP13.1); clear HP13; replace HB := Aside0.mk ((by rw [hw]; exact below_set (HB.out) GB5.out : Below w0.heap.size w0 w14)); replace HK := Aside0.mk (Kept.of_grown (S := (fun k_ => P0_ k_)) hg (by repeat first | (with_reducible first | exact HK.out | apply Kept.drewN | apply Kept.drew) | exact HK.out) (fun k_ e_ => (HO_0.out.1 k_ e_))); replace HO_0 := Aside0.mk (hp_); clear hg hw hp_))
  go_roundg k1
  case measure => have := HK1.out; omega
  case rel => exact ⟨(y647), (wrap64 ((wrap64 ((wrap64 (x1_1 + 1)) + 1)) + 1)), (wrap64 (x5_1 + 1)), Xr, Xr, H', Xk1, (Xp' HO_0), ⟨by repeat first | (with_reducible first | exact HK.out | apply Kept.drewN | apply Kept.drew) | exact HK.out⟩, ⟨Xi⟩⟩
 simp only [Option.some.injEq, Prod.mk.injEq] at H
 obtain ⟨rfl, rfl⟩ := H
 obtain ⟨Ao15, co15, eo15⟩ := Kd.R_slice HO_0.out
 subst eo15
 go_wp2
 go_ret
 exact ⟨Xe, Xq HO_0, Xi, by repeat first | (with_reducible first | exact HK.out | apply Kept.drewN | apply Kept.drew) | exact HK.out⟩
def laws_markTable.f (k : Nat) (l0_0 : List (S39)) (l0_1 : List (S39)) (a1 : Int) : Option (Int × (List (S39)) × (List (S39))) := (laws_markHoldS.f k l0_0 a1).bind fun bt649 => ((laws_markHoldS.f k l0_1 bt649.1).bind fun bt651 => (some (bt651.1, bt649.2, bt651.2)))
theorem laws_markTable.calls (k : Nat) (P0_0_ : Nat → Prop) (u9000_ : Value) (l0_0 : List (S39)) (P0_1_ : Nat → Prop) (u9001_ : Value) (l0_1 : List (S39)) (a1 : Int) (r1 : Int) (r2 : List (S39)) (r3 : List (S39)) (w0 w : World) (hB : Below w0.heap.size w0 w) (ho0_0 : Kd.R k39 39 w w0.heap.size P0_0_ u9000_ l0_0) (hp0_0_0_1 : ∀ k_, P0_0_ k_ → ¬ P0_1_ k_) (ho0_1 : Kd.R k39 39 w w0.heap.size P0_1_ u9001_ l0_1) (hp0_1_0_0 : ∀ k_, P0_1_ k_ → ¬ P0_0_ k_) (h : laws_markTable.f k l0_0 l0_1 a1 = some (r1, r2, r3)) :
  Calls Tryz.prog 26 #[.agg #[u9000_, u9001_], .int .i64 a1] w fun e w' => e = .returned (.int .i64 r1) ∧ Kd.R k39 39 w' w0.heap.size (fun k_ => ((P0_0_ k_ ∨ P0_1_ k_) ∨ w.heap.size ≤ k_)) u9000_ r2 ∧ Kd.R k39 39 w' w0.heap.size (fun k_ => ((P0_0_ k_ ∨ P0_1_ k_) ∨ w.heap.size ≤ k_)) u9001_ r3 ∧ Below w0.heap.size w0 w' ∧ Kept w w' (fun k_ => P0_0_ k_ ∨ P0_1_ k_) := by
 have hu53 := Tryz.underlying53
 have HO0_0 := Aside0.mk (show Kd.R k39 39 w w0.heap.size (fun k_ => ((P0_0_ k_ ∨ P0_1_ k_) ∨ w.heap.size ≤ k_) ∧ some k_ ≠ (u9001_ : Value).ownBlock) u9000_ l0_0 from Kd.R_mono ho0_0 (fun k_ hk => ⟨(.inl (.inl hk)), fun e_ => hp0_0_0_1 k_ hk (ho0_1.1 k_ e_.symm)⟩))
 have HO0_1 := Aside0.mk (show Kd.R k39 39 w w0.heap.size (fun k_ => ((P0_0_ k_ ∨ P0_1_ k_) ∨ w.heap.size ≤ k_) ∧ some k_ ≠ (u9000_ : Value).ownBlock) u9001_ l0_1 from Kd.R_mono ho0_1 (fun k_ hk => ⟨(.inl (.inr hk)), fun e_ => hp0_1_0_0 k_ hk (ho0_0.1 k_ e_.symm)⟩))
 have HK := Aside0.mk (Kept.refl w (fun k_ => P0_0_ k_ ∨ P0_1_ k_))
 have HW0 := Aside0.mk hB.size
 have HB := Aside0.mk hB
 clear hB
 have H : ((laws_markHoldS.f k l0_0 a1).bind fun bt649 => ((laws_markHoldS.f k l0_1 bt649.1).bind fun bt651 => (some (bt651.1, bt649.2, bt651.2)))) = some (r1, r2, r3) := h
 clear h
 replace H := Option.bind_eq_some_iff.mp H
 obtain ⟨⟨t649, t650⟩, A30, H⟩ := H
 try dsimp only at H
 have A3 := Aside0.mk A30
 clear A30
 replace H := Option.bind_eq_some_iff.mp H
 obtain ⟨⟨t651, t652⟩, A40, H⟩ := H
 try dsimp only at H
 have A4 := Aside0.mk A40
 clear A40
 simp only [Option.some.injEq, Prod.mk.injEq] at H
 obtain ⟨rfl, rfl, rfl⟩ := H
 obtain ⟨Ao5, co5, eo5⟩ := Kd.R_slice HO0_0.out
 subst eo5
 obtain ⟨Ao6, co6, eo6⟩ := Kd.R_slice HO0_1.out
 subst eo6
 go_enter Tryz.func26, Tryz.ntmps26
 go_wp2_with (first | ((with_reducible refine gate_dst (N := 2) rfl ?_); refine Xbox 2 #[.slice Ao5 l0_0.length co5, .slice Ao6 l0_1.length co6] 53 ?_; intro gb648 hg w7 hbox hb; replace HO0_0 := Aside0.mk (Kd.R_below (Xq HO0_0) hb); replace HO0_1 := Aside0.mk (Kd.R_below (Xq HO0_1) hb); have BK648 := Aside0.mk (hbox); have GW648 := Aside0.mk ((by rw [hg]; exact (by first | exact HK.out.1 | exact (show Kept w _ (fun k_ => P0_0_ k_ ∨ P0_1_ k_) from by repeat first | (with_reducible first | exact HK.out | apply Kept.drewN | apply Kept.drew) | exact HK.out).1) : w.heap.size ≤ gb648)); replace HK := Aside0.mk (Kept.below (S := (fun k_ => P0_0_ k_ ∨ P0_1_ k_)) (by repeat first | (with_reducible first | exact HK.out | apply Kept.drewN | apply Kept.drew) | exact HK.out) hb); have GE648 := Aside0.mk ((by rw [hg]; exact (below_size Xi) : w0.heap.size ≤ gb648)); replace HB := Aside0.mk (below_step Xi hb); clear hb hbox hg; obtain ⟨hcz8_0, hcz8_1⟩ := Xc2 BK648) | ((with_reducible refine gate_callee (f := 18) rfl ?_); refine Xgo 8 Tryz.func18 #[.slice Ao5 l0_0.length co5, .int .i64 a1] ?_; (with_reducible refine (laws_markHoldS.calls k (fun k_ => some k_ = (.slice Ao5 l0_0.length co5 : Value).ownBlock) (.slice Ao5 l0_0.length co5) l0_0 a1 t649 t650 w0 _ ?side1 ?side2 A3.out).mono ?_); (case side1 => exact Xi); (case side2 => exact Kd.R_tight rfl HO0_0.out); rintro e w9 ⟨rfl, hy0, hb, hkp⟩; refine ⟨_, rfl, ?_⟩; replace HO0_1 := Aside0.mk (Kd.R_mono (ok' := fun k_ => ((P0_0_ k_ ∨ P0_1_ k_) ∨ w.heap.size ≤ k_) ∧ some k_ ≠ (.slice Ao5 l0_0.length co5 : Value).ownBlock) (Kd.R_keptB (HO0_1.out) hkp (fun k_ hk_ hs_ => (hk_.2) hs_)) (fun k_ hk_ => ⟨hk_.1.1, hk_.1.2⟩)); replace BK648 := Aside0.mk (blk_kept BK648.out hkp (fun hs_ => (fun e_ => (Kd.R_ne HO0_0.out BK648.out (by decide)) e_) hs_)); replace HK := Aside0.mk (Kept.then_ (S := (fun k_ => P0_0_ k_ ∨ P0_1_ k_)) (by repeat first | (with_reducible first | exact HK.out | apply Kept.drewN | apply Kept.drew | refine Kept.setCell ?_ (.inr GW648.out) _) | exact HK.out) hkp (fun k_ hs_ => (fun e_ => (HO0_0.out.1 k_ e_.symm).1) hs_)); replace HO0_0 := Aside0.mk (Kd.R_reok rfl hy0 (fun k_ e_ => HO0_0.out.1 k_ e_)); replace HB := Aside0.mk (hb); (try clear hb); (try clear hkp); (try clear hy0); obtain ⟨hcz10_0, hcz10_1⟩ := Xc2 BK648) | ((with_reducible refine gate_callee (f := 18) rfl ?_); refine Xgo 12 Tryz.func18 #[.slice Ao6 l0_1.length co6, .int .i64 t649] ?_; (with_reducible refine (laws_markHoldS.calls k (fun k_ => some k_ = (.slice Ao6 l0_1.length co6 : Value).ownBlock) (.slice Ao6 l0_1.length co6) l0_1 t649 t651 t652 w0 _ ?side1 ?side2 A4.out).mono ?_); (case side1 => exact Xi); (case side2 => exact Kd.R_tight rfl HO0_1.out); rintro e w11 ⟨rfl, hy0, hb, hkp⟩; refine ⟨_, rfl, ?_⟩; replace HO0_0 := Aside0.mk (Kd.R_mono (ok' := fun k_ => ((P0_0_ k_ ∨ P0_1_ k_) ∨ w.heap.size ≤ k_) ∧ some k_ ≠ (.slice Ao6 l0_1.length co6 : Value).ownBlock) (Kd.R_keptB (HO0_0.out) hkp (fun k_ hk_ hs_ => (hk_.2) hs_)) (fun k_ hk_ => ⟨hk_.1.1, hk_.1.2⟩)); replace BK648 := Aside0.mk (blk_kept BK648.out hkp (fun hs_ => (fun e_ => (Kd.R_ne HO0_1.out BK648.out (by decide)) e_) hs_)); replace HK := Aside0.mk (Kept.then_ (S := (fun k_ => P0_0_ k_ ∨ P0_1_ k_)) (by repeat first | (with_reducible first | exact HK.out | apply Kept.drewN | apply Kept.drew | refine Kept.setCell ?_ (.inr GW648.out) _) | exact HK.out) hkp (fun k_ hs_ => (fun e_ => (HO0_1.out.1 k_ e_.symm).1) hs_)); replace HO0_1 := Aside0.mk (Kd.R_reok rfl hy0 (fun k_ e_ => HO0_1.out.1 k_ e_)); replace HB := Aside0.mk (hb); (try clear hb); (try clear hkp); (try clear hy0)))
 go_ret
 exact ⟨Xe, by (with_reducible repeat (first | apply Kd.R_alloc | apply Kd.R_drewN | apply Kd.R_drew)); exact Kd.R_mono HO0_0.out (fun _ hk => hk.1), by (with_reducible repeat (first | apply Kd.R_alloc | apply Kd.R_drewN | apply Kd.R_drew)); exact Kd.R_mono HO0_1.out (fun _ hk => hk.1), Xi, by repeat first | (with_reducible first | exact HK.out | apply Kept.drewN | apply Kept.drew | refine Kept.setCell ?_ (.inr GW648.out) _) | exact HK.out⟩
end Go.Proofs.YtahhgjkgfbppeaaGreat.XA
