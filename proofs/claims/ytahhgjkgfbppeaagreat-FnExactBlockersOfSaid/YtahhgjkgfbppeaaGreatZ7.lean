/- Words and contracts of this claim. Conditions: each theorem's own premises. -/
import Derived.Test.YtahhgjkgfbppeaaGreatZ1
import Derived.Test.YtahhgjkgfbppeaaGreatZ3
import Derived.Test.YtahhgjkgfbppeaaGreatZ5
import Derived.Test.YtahhgjkgfbppeaaGreatZ6
namespace Go.Proofs.YtahhgjkgfbppeaaGreat.XA
open Go.RowKit Go.Proofs.YtahhgjkgfbppeaaGreatW.PrintWords Go.Proofs.YtahhgjkgfbppeaaGreatW.PrintLast Go.Proofs.YtahhgjkgfbppeaaGreatW.PrintMore XW
attribute [local go_sem] max2_int min2_int max_two min_two max_three min_three max_four min_four   -- for this text's walks alone
set_option linter.unusedVariables false
set_option linter.unusedSimpArgs false
set_option maxHeartbeats 8000000
set_option maxRecDepth 100000
def slices_IndexFunc_impl_Hold_impl_Hold_at_impl_Table_waiting_1.l0 : Nat → List (S39) → Int → Int → Int → Option (Int)
 | 0, _, _, _, _ => none
 | k + 1, x0, x7, x8, x26000 => if x8 < x7 then (if 0 ≤ x8 then (if x8 < (x0.length : Int) then ((impl_Table_waiting_1.f ((rd_T39 x0 x8).f0) ((rd_T39 x0 x8).f1) ((rd_T39 x0 x8).f2) x26000).bind fun t463 => (if t463 = true then (some x8) else (slices_IndexFunc_impl_Hold_impl_Hold_at_impl_Table_waiting_1.l0 k x0 x7 (wrap64 (x8 + 1)) x26000))) else (none)) else (none)) else (some (-1))
def slices_IndexFunc_impl_Hold_impl_Hold_at_impl_Table_waiting_1.f (k : Nat) (l0 : List (S39)) (a1_0_0 : Int) : Option (Int) := slices_IndexFunc_impl_Hold_impl_Hold_at_impl_Table_waiting_1.l0 k l0 (l0.length : Int) 0 a1_0_0
theorem slices_IndexFunc_impl_Hold_impl_Hold_at_impl_Table_waiting_1.calls (k : Nat) (A0 : Option Addr) (c0 : Nat) (l0 : List (S39)) (g1_0_ : Nat) (a1_0_0 : Int) (r : Int) (w : World) (hr0 : Kd.C k39 w A0 l0.length l0) (hc0 : l0.length ≤ c0) (hg1_0_ : w.heap[g1_0_]? = some (.cells #[.int .i64 a1_0_0] 3 (0, 0))) (h : slices_IndexFunc_impl_Hold_impl_Hold_at_impl_Table_waiting_1.f k l0 a1_0_0 = some r) :
  Calls Tryz.prog 108 #[.slice A0 l0.length c0, .func (.func 109) #[] #[.pointer (some ⟨g1_0_, 0, none⟩)]] w fun e w' => e = .returned (.int .i64 r) ∧ Below w.heap.size w w' := by
 have hu39 := Tryz.underlying39
 have HR0 := Aside0.mk hr0
 have HC0 := Aside0.mk hc0
 clear hr0 hc0
 have BK25 := Aside0.mk hg1_0_
 clear hg1_0_
 have HB := Aside0.mk (Below.refl w.heap.size w)
 have H : (slices_IndexFunc_impl_Hold_impl_Hold_at_impl_Table_waiting_1.l0 k l0 (l0.length : Int) 0 a1_0_0) = some r := h
 clear h
 have H' := Aside0.mk H
 clear H
 go_enter Tryz.func108, Tryz.ntmps108
 go_wp2
 go_loopg [8] k (fun kq v8 w' => ∃ (x8_1 : Int), v8 = .int .i64 x8_1 ∧ Aside0 (slices_IndexFunc_impl_Hold_impl_Hold_at_impl_Table_waiting_1.l0 kq l0 (l0.length : Int) x8_1 a1_0_0 = some r) ∧ Aside0 (kq ≤ k) ∧ Aside0 (w'.heap[g1_0_]? = some (.cells #[.int .i64 a1_0_0] 3 (0, 0))) ∧ Aside0 (Below w.heap.size w w'))
 case atStart => exact ⟨(0), Xr, H', Xkr, BK25, ⟨Xi⟩⟩
 clear H'
 obtain ⟨x8_1, rfl, HA, HK1, BK25, HB⟩ := hrel
 cases gk with | zero => cases HA.out | succ k1 => ?_
 have H := HA.out
 clear HA
 simp only [slices_IndexFunc_impl_Hold_impl_Hold_at_impl_Table_waiting_1.l0] at H
 obtain ⟨c3b0, H⟩ | ⟨c3b0, H⟩ := Xit H
 ·obtain ⟨c4b0, H⟩ := Xid H
  obtain ⟨c5b0, H⟩ := Xid H
  obtain ⟨t463, A6, H⟩ := Xbi H
  try dsimp only at H
  have HC7 := Aside0.mk H
  clear H
  obtain ⟨ad462, e462, p462, q462, hx462_0, hx462_1, hx462_2⟩ := at_B39 HR0 x8_1 Xa Xa HB
  cases e462
  go_upto_if 16 with (first | (go_at_call 109; (with_reducible refine (impl_Table_waiting_1.calls ((rd_T39 l0 x8_1).f0) ((rd_T39 l0 x8_1).f1) ((rd_T39 l0 x8_1).f2) g1_0_ a1_0_0 t463 _ ?side1 A6.out).mono ?_); (case side1 => exact BK25.out); rintro e w8 ⟨rfl, hb⟩; replace BK25 := Xbb BK25 hb; replace HB := Aside0.mk (below_step Xi hb); clear hb))
  have H := HC7.out
  clear HC7
  by_cases c9 : t463 = true
  ·subst c9
   try rw [if_pos rfl] at H
   obtain rfl := Option.some.inj H
   go_wp2
   go_ret
   exact ⟨Xe, Xi⟩
  replace c9 := Bool.eq_false_iff.mpr c9
  subst c9
  try rw [if_neg (show ¬ (false = true) by decide)] at H
  have H' := Aside0.mk H
  clear H
  go_wp2
  go_roundg k1
  case measure => have := HK1.out; omega
  case rel => exact ⟨(wrap64 (x8_1 + 1)), Xr, H', Xk1, BK25, ⟨Xi⟩⟩
 obtain rfl := Option.some.inj H
 go_wp2
 go_ret
 exact ⟨Xe, Xi⟩
def impl_Table_waiting.f (k : Nat) (l0_0 : List (S39)) (l0_1 : List (S39)) (a1 : Int) : Option (Int) := (slices_IndexFunc_impl_Hold_impl_Hold_at_impl_Table_waiting_1.f k l0_1 a1).bind fun t465 => (some t465)
theorem impl_Table_waiting.calls (k : Nat) (g0_ : Nat) (A0_0 : Option Addr) (c0_0 : Nat) (l0_0 : List (S39)) (A0_1 : Option Addr) (c0_1 : Nat) (l0_1 : List (S39)) (a1 : Int) (r : Int) (w : World) (hg0_ : w.heap[g0_]? = some (.cells #[.slice A0_0 l0_0.length c0_0, .slice A0_1 l0_1.length c0_1] 53 (0, 0))) (hr0_0 : Kd.C k39 w A0_0 l0_0.length l0_0) (hc0_0 : l0_0.length ≤ c0_0) (hr0_1 : Kd.C k39 w A0_1 l0_1.length l0_1) (hc0_1 : l0_1.length ≤ c0_1) (h : impl_Table_waiting.f k l0_0 l0_1 a1 = some r) :
  Calls Tryz.prog 58 #[.pointer (some ⟨g0_, 0, none⟩), .int .i64 a1] w fun e w' => e = .returned (.int .i64 r) ∧ Below w.heap.size w w' := by
 have HR0_0 := Aside0.mk hr0_0
 have HC0_0 := Aside0.mk hc0_0
 clear hr0_0 hc0_0
 have HR0_1 := Aside0.mk hr0_1
 have HC0_1 := Aside0.mk hc0_1
 clear hr0_1 hc0_1
 have BK0 := Aside0.mk hg0_
 clear hg0_
 have HB := Aside0.mk (Below.refl w.heap.size w)
 have H : ((slices_IndexFunc_impl_Hold_impl_Hold_at_impl_Table_waiting_1.f k l0_1 a1).bind fun t465 => (some t465)) = some r := h
 clear h
 obtain ⟨t465, A3, H⟩ := Xbi H
 try dsimp only at H
 obtain rfl := Option.some.inj H
 go_enter Tryz.func58, Tryz.ntmps58
 go_wp2_with (first | ((with_reducible refine gate_dst (N := 3) rfl ?_); refine Xbox 3 #[.int .i64 a1] 3 ?_; intro gb464 hg w4 hbox hb; have BK464 := Aside0.mk (hbox); have GE464 := Xge hg Xi; replace HB := Aside0.mk (below_step Xi hb); have NB0_464 := Xnb hg BK0; have NB464_0 := Xns NB0_464; replace BK0 := Xbb BK0 hb; clear hb hbox hg; have hnb5 := NB0_464.out; have hnc5 := NB464_0.out; obtain ⟨hcz6_0, hcz6_1⟩ := Xc2 BK0) | ((with_reducible refine gate_callee (f := 108) rfl ?_); refine Xgo 10 Tryz.func108 #[.slice A0_1 l0_1.length c0_1, .func (.func 109) #[] #[.pointer (some ⟨gb464, 0, none⟩)]] ?_; (with_reducible refine (slices_IndexFunc_impl_Hold_impl_Hold_at_impl_Table_waiting_1.calls k _ _ l0_1 gb464 a1 t465 _ ?side1 ?side2 ?side3 A3.out).mono ?_); (case side1 => exact Xc HR0_1); (case side2 => exact HC0_1.out); (case side3 => exact BK464.out); rintro e w7 ⟨rfl, hb⟩; refine ⟨_, rfl, ?_⟩; replace BK0 := Xbb BK0 hb; replace BK464 := Xbb BK464 hb; replace HB := Aside0.mk (below_step Xi hb); clear hb))
 go_ret
 exact ⟨Xe, Xi⟩
mutual
def impl_TableOK.j0 : Nat → Bool → Int → Int → List (S113) → List (S39) → List (S39) → Option (Bool)
 | 0, _, _, _, _, _, _ => none
 | k + 1, x17, x467000, x467001, x467002, x468000, x468001 => if x17 = true then (some false) else (impl_TableOK.l0 k x468001 (x468001.length : Int) 0 x467000 x467001 x467002 x468000 x468001)
def impl_TableOK.l0 : Nat → List (S39) → Int → Int → Int → Int → List (S113) → List (S39) → List (S39) → Option (Bool)
 | 0, _, _, _, _, _, _, _, _ => none
 | k + 1, x19, x20, x21, x467000, x467001, x467002, x468000, x468001 => if x21 < x20 then (if 0 ≤ x21 then (if x21 < (x19.length : Int) then ((impl_Doc_isHold.f k x467000 x467001 x467002 ((rd_T39 x19 x21).f0) ((rd_T39 x19 x21).f1) ((rd_T39 x19 x21).f2)).bind fun t471 => (if t471 = true then ((impl_Table_waiting.f k x468000 x468001 ((rd_T39 x19 x21).f0)).bind fun t472 => (if t472 = x21 then (impl_TableOK.l0 k x19 x20 (wrap64 (x21 + 1)) x467000 x467001 x467002 x468000 x468001) else (some false))) else (some false))) else (none)) else (none)) else (some true)
end
def impl_TableOK.f (k : Nat) (a0_0 : Int) (a0_1 : Int) (l0_2 : List (S113)) (l1_0 : List (S39)) (l1_1 : List (S39)) : Option (Bool) := (impl_HoldsOK.f k a0_0 a0_1 l0_2 l1_0).bind fun t468 => (if t468 = true then (impl_TableOK.j0 k (decide ((l1_1.length : Int) > 6)) a0_0 a0_1 l0_2 l1_0 l1_1) else (impl_TableOK.j0 k true a0_0 a0_1 l0_2 l1_0 l1_1))
theorem impl_TableOK.calls (k : Nat) (a0_0 : Int) (a0_1 : Int) (A0_2 : Option Addr) (c0_2 : Nat) (l0_2 : List (S113)) (A1_0 : Option Addr) (c1_0 : Nat) (l1_0 : List (S39)) (A1_1 : Option Addr) (c1_1 : Nat) (l1_1 : List (S39)) (r : Bool) (w : World) (hr0_2 : Kd.C k113 w A0_2 l0_2.length l0_2) (hc0_2 : l0_2.length ≤ c0_2) (hr1_0 : Kd.C k39 w A1_0 l1_0.length l1_0) (hc1_0 : l1_0.length ≤ c1_0) (hr1_1 : Kd.C k39 w A1_1 l1_1.length l1_1) (hc1_1 : l1_1.length ≤ c1_1) (h : impl_TableOK.f k a0_0 a0_1 l0_2 l1_0 l1_1 = some r) :
  Calls Tryz.prog 106 #[.agg #[.int .i64 a0_0, .int .i64 a0_1, .slice A0_2 l0_2.length c0_2], .agg #[.slice A1_0 l1_0.length c1_0, .slice A1_1 l1_1.length c1_1]] w fun e w' => e = .returned (.bool r) ∧ Below w.heap.size w w' := by
 have hu35 := Tryz.underlying35
 have hu53 := Tryz.underlying53
 have hu39 := Tryz.underlying39
 have HR0_2 := Aside0.mk hr0_2
 have HC0_2 := Aside0.mk hc0_2
 clear hr0_2 hc0_2
 have HR1_0 := Aside0.mk hr1_0
 have HC1_0 := Aside0.mk hc1_0
 clear hr1_0 hc1_0
 have HR1_1 := Aside0.mk hr1_1
 have HC1_1 := Aside0.mk hc1_1
 clear hr1_1 hc1_1
 have HB := Aside0.mk (Below.refl w.heap.size w)
 have H : ((impl_HoldsOK.f k a0_0 a0_1 l0_2 l1_0).bind fun t468 => (if t468 = true then (impl_TableOK.j0 k (decide ((l1_1.length : Int) > 6)) a0_0 a0_1 l0_2 l1_0 l1_1) else (impl_TableOK.j0 k true a0_0 a0_1 l0_2 l1_0 l1_1))) = some r := h
 clear h
 have HC3 := Aside0.mk H
 clear H
 go_enter Tryz.func106, Tryz.ntmps106
 go_upto_region 1 with (first | ((with_reducible refine gate_dst (N := 2) rfl ?_); (try (refine gate_guard (by rfl) ?_; dsimp only)); refine Xbox 2 #[.int .i64 a0_0, .int .i64 a0_1, .slice A0_2 l0_2.length c0_2] 35 ?_; intro gb466 hg w4 hbox hb; have BK466 := Aside0.mk (hbox); have GE466 := Xge hg Xi; replace HB := Aside0.mk (below_step Xi hb); clear hb hbox hg) | ((with_reducible refine gate_dst (N := 3) rfl ?_); (try (refine gate_guard (by rfl) ?_; dsimp only)); refine Xbox 3 #[.slice A1_0 l1_0.length c1_0, .slice A1_1 l1_1.length c1_1] 53 ?_; intro gb467 hg w5 hbox hb; have BK467 := Aside0.mk (hbox); have GE467 := Xge hg Xi; replace HB := Aside0.mk (below_step Xi hb); have NB466_467 := Xnb hg BK466; have NB467_466 := Xns NB466_467; replace BK466 := Xbb BK466 hb; clear hb hbox hg))
 (try simp only [XW.q0, XW.q1, XW.q2])
 go_cut [17] (fun v17 wc => ∃ (kq : Nat) (x17_2 : Bool), v17 = .bool x17_2 ∧ Aside0 (impl_TableOK.j0 kq x17_2 a0_0 a0_1 l0_2 l1_0 l1_1 = some r) ∧ Aside0 (kq ≤ k) ∧ Aside0 (wc.heap[gb466]? = some (.cells #[.int .i64 a0_0, .int .i64 a0_1, (.slice A0_2 l0_2.length c0_2)] 35 (0, 0))) ∧ Aside0 (wc.heap[gb467]? = some (.cells #[(.slice A1_0 l1_0.length c1_0), (.slice A1_1 l1_1.length c1_1)] 53 (0, 0))) ∧ Aside0 (Below w.heap.size w wc))
 case first =>
  have H := HC3.out
  clear HC3
  obtain ⟨t468, A6, H⟩ := Xbi H
  try dsimp only at H
  by_cases c7 : t468 = true
  ·subst c7
   try rw [if_pos rfl] at H
   have H' := Aside0.mk H
   clear H
   have hnb8 := NB466_467.out
   have hnc8 := NB467_466.out
   obtain ⟨hcz9_0, hcz9_1, hcz9_2⟩ := Xc3 BK466
   obtain ⟨hfz9_0, hfz9_1, hfz9_2⟩ := Xf3 BK466
   obtain ⟨hcz10_0, hcz10_1⟩ := Xc2 BK467
   obtain ⟨hfz10_0, hfz10_1⟩ := Xf2 BK467
   go_wp2_with (first | ((with_reducible refine gate_callee (f := 31) rfl ?_); refine Xgo 10 Tryz.func31 #[.agg #[.int .i64 a0_0, .int .i64 a0_1, .slice A0_2 l0_2.length c0_2], .slice A1_0 l1_0.length c1_0] ?_; (with_reducible refine (impl_HoldsOK.calls k a0_0 a0_1 _ _ l0_2 _ _ l1_0 true _ ?side1 ?side2 ?side3 ?side4 A6.out).mono ?_); (case side1 => exact Xc HR0_2); (case side2 => exact HC0_2.out); (case side3 => exact Xc HR1_0); (case side4 => exact HC1_0.out); rintro e w11 ⟨rfl, hb⟩; refine ⟨_, rfl, ?_⟩; replace BK466 := Xbb BK466 hb; replace BK467 := Xbb BK467 hb; replace HB := Aside0.mk (below_step Xi hb); clear hb; obtain ⟨hcz12_0, hcz12_1⟩ := Xc2 BK467; obtain ⟨hfz12_0, hfz12_1⟩ := Xf2 BK467))
   go_meet
   case rel => exact ⟨_, (decide ((l1_1.length : Int) > 6)), Xr, H', Xko, BK466, BK467, ⟨Xi⟩⟩
  replace c7 := Bool.eq_false_iff.mpr c7
  subst c7
  try rw [if_neg (show ¬ (false = true) by decide)] at H
  have H' := Aside0.mk H
  clear H
  have hnb13 := NB466_467.out
  have hnc13 := NB467_466.out
  obtain ⟨hcz14_0, hcz14_1, hcz14_2⟩ := Xc3 BK466
  obtain ⟨hfz14_0, hfz14_1, hfz14_2⟩ := Xf3 BK466
  obtain ⟨hcz15_0, hcz15_1⟩ := Xc2 BK467
  obtain ⟨hfz15_0, hfz15_1⟩ := Xf2 BK467
  go_wp2_with (first | ((with_reducible refine gate_callee (f := 31) rfl ?_); refine Xgo 10 Tryz.func31 #[.agg #[.int .i64 a0_0, .int .i64 a0_1, .slice A0_2 l0_2.length c0_2], .slice A1_0 l1_0.length c1_0] ?_; (with_reducible refine (impl_HoldsOK.calls k a0_0 a0_1 _ _ l0_2 _ _ l1_0 false _ ?side1 ?side2 ?side3 ?side4 A6.out).mono ?_); (case side1 => exact Xc HR0_2); (case side2 => exact HC0_2.out); (case side3 => exact Xc HR1_0); (case side4 => exact HC1_0.out); rintro e w16 ⟨rfl, hb⟩; refine ⟨_, rfl, ?_⟩; replace BK466 := Xbb BK466 hb; replace BK467 := Xbb BK467 hb; replace HB := Aside0.mk (below_step Xi hb); clear hb))
  go_meet
  case rel => exact ⟨_, (true), Xr, H', Xko, BK466, BK467, ⟨Xi⟩⟩
 clear HC3
 obtain ⟨kq, x17_2, rfl, HA, HJ2, BK466, BK467, HB⟩ := hcut
 cases kq with | zero => cases HA.out | succ kj2 => ?_
 have H := HA.out
 clear HA
 simp only [impl_TableOK.j0] at H
 by_cases c17 : x17_2 = true
 ·subst c17
  try rw [if_pos rfl] at H
  obtain rfl := Option.some.inj H
  go_wp2
  go_ret
  exact ⟨Xe, Xi⟩
 replace c17 := Bool.eq_false_iff.mpr c17
 subst c17
 try rw [if_neg (show ¬ (false = true) by decide)] at H
 have H' := Aside0.mk H
 clear H
 have hnb18 := NB467_466.out
 have hnc18 := NB466_467.out
 obtain ⟨hcz19_0, hcz19_1⟩ := Xc2 BK467
 obtain ⟨hfz19_0, hfz19_1⟩ := Xf2 BK467
 go_wp2
 go_loopg [21] kj2 (fun kq v21 w' => ∃ (x21_2 : Int), v21 = .int .i64 x21_2 ∧ Aside0 (impl_TableOK.l0 kq l1_1 (l1_1.length : Int) x21_2 a0_0 a0_1 l0_2 l1_0 l1_1 = some r) ∧ Aside0 (kq ≤ kj2) ∧ Aside0 (w'.heap[gb466]? = some (.cells #[.int .i64 a0_0, .int .i64 a0_1, (.slice A0_2 l0_2.length c0_2)] 35 (0, 0))) ∧ Aside0 (w'.heap[gb467]? = some (.cells #[(.slice A1_0 l1_0.length c1_0), (.slice A1_1 l1_1.length c1_1)] 53 (0, 0))) ∧ Aside0 (Below w.heap.size w w'))
 case atStart => exact ⟨(0), Xr, H', Xkr, BK466, BK467, ⟨Xi⟩⟩
 clear H'
 (try clear c17); (try clear hcz19_0); (try clear hcz19_1); (try clear hfz19_0); (try clear hfz19_1)
 obtain ⟨x21_2, rfl, HA, HK2, BK466, BK467, HB⟩ := hrel
 cases gk with | zero => cases HA.out | succ k2 => ?_
 have H := HA.out
 clear HA
 simp only [impl_TableOK.l0] at H
 obtain ⟨c20b0, H⟩ | ⟨c20b0, H⟩ := Xit H
 ·obtain ⟨c21b0, H⟩ := Xid H
  obtain ⟨c22b0, H⟩ := Xid H
  have HC23 := Aside0.mk H
  clear H
  obtain ⟨ad469, e469, p469, q469, hx469_0, hx469_1, hx469_2⟩ := at_B39 HR1_1 x21_2 Xa Xa HB
  cases e469
  go_upto_region 6 with (first | ((with_reducible refine gate_dst (N := 6) rfl ?_); (try (refine gate_guard (by rfl) ?_; dsimp only)); refine Xbox 6 #[.int .i64 0, .int .i64 0, .int .i64 0] 39 ?_; intro gb470 hg w24 hbox hb; have BK470 := Aside0.mk (hbox); have GE470 := Xge hg Xi; replace HB := Aside0.mk (below_step Xi hb); have NB466_470 := Xnb hg BK466; have NB470_466 := Xns NB466_470; replace BK466 := Xbb BK466 hb; have NB467_470 := Xnb hg BK467; have NB470_467 := Xns NB467_470; replace BK467 := Xbb BK467 hb; clear hb hbox hg; have hnb25 := NB470_466.out; have hnc25 := NB466_470.out; have hnb26 := NB470_467.out; have hnc26 := NB467_470.out; obtain ⟨hcz27_0, hcz27_1, hcz27_2⟩ := Xc3 BK470; obtain ⟨hfz27_0, hfz27_1, hfz27_2⟩ := Xf3 BK470) | ((with_reducible refine gate_store (t := 39) (p := 6) rfl ?_); refine store_event (t := 39) (p := 6) (v := ?vo_w28) (w1 := (((w24.setCell ⟨gb470, 0, none⟩ (.int .i64 ((rd_T39 l1_1 x21_2).f0))).setCell ⟨gb470, 1, none⟩ (.int .i64 ((rd_T39 l1_1 x21_2).f1))).setCell ⟨gb470, 2, none⟩ (.int .i64 ((rd_T39 l1_1 x21_2).f2)))) ?hg ?ho ?hn ?hr ?_; (case ho => rfl); (case hg => rfl); (case hn => rfl); (case hr => first | (go_simp; done) | (go_simp; rfl)); intro w28 hw; have n0_ : Aside0 (w28.heap[gb466]? = some (.cells #[.int .i64 a0_0, .int .i64 a0_1, .slice A0_2 l0_2.length c0_2] 35 (0, 0))) := ⟨(by rw [hw]; exact (by (with_reducible repeat (first | refine blk_drewN ?_ _ | refine blk_drew ?_ | refine blk_alloc ?_ _)); refine blk_far ?_ NB466_470.out _; (with_reducible repeat (first | refine blk_drewN ?_ _ | refine blk_drew ?_ | refine blk_alloc ?_ _)); refine blk_far ?_ NB466_470.out _; (with_reducible repeat (first | refine blk_drewN ?_ _ | refine blk_drew ?_ | refine blk_alloc ?_ _)); refine blk_far ?_ NB466_470.out _; (with_reducible repeat (first | refine blk_drewN ?_ _ | refine blk_drew ?_ | refine blk_alloc ?_ _)); exact BK466.out))⟩; have n1_ : Aside0 (w28.heap[gb467]? = some (.cells #[.slice A1_0 l1_0.length c1_0, .slice (some ad469) l1_1.length c1_1] 53 (0, 0))) := ⟨(by rw [hw]; exact (by (with_reducible repeat (first | refine blk_drewN ?_ _ | refine blk_drew ?_ | refine blk_alloc ?_ _)); refine blk_far ?_ NB467_470.out _; (with_reducible repeat (first | refine blk_drewN ?_ _ | refine blk_drew ?_ | refine blk_alloc ?_ _)); refine blk_far ?_ NB467_470.out _; (with_reducible repeat (first | refine blk_drewN ?_ _ | refine blk_drew ?_ | refine blk_alloc ?_ _)); refine blk_far ?_ NB467_470.out _; (with_reducible repeat (first | refine blk_drewN ?_ _ | refine blk_drew ?_ | refine blk_alloc ?_ _)); exact BK467.out))⟩; have n2_ : Aside0 (w28.heap[gb470]? = some (.cells #[.int .i64 ((rd_T39 l1_1 x21_2).f0), .int .i64 ((rd_T39 l1_1 x21_2).f1), .int .i64 ((rd_T39 l1_1 x21_2).f2)] 39 (0, 0))) := ⟨(by rw [hw]; exact (by (with_reducible repeat (first | refine blk_drewN ?_ _ | refine blk_drew ?_ | refine blk_alloc ?_ _)); refine blk_put (cs := #[.int .i64 ((rd_T39 l1_1 x21_2).f0), .int .i64 ((rd_T39 l1_1 x21_2).f1), .int .i64 0]) ?_ 2 _ rfl; (with_reducible repeat (first | refine blk_drewN ?_ _ | refine blk_drew ?_ | refine blk_alloc ?_ _)); refine blk_put (cs := #[.int .i64 ((rd_T39 l1_1 x21_2).f0), .int .i64 0, .int .i64 0]) ?_ 1 _ rfl; (with_reducible repeat (first | refine blk_drewN ?_ _ | refine blk_drew ?_ | refine blk_alloc ?_ _)); refine blk_put (cs := #[.int .i64 0, .int .i64 0, .int .i64 0]) ?_ 0 _ rfl; (with_reducible repeat (first | refine blk_drewN ?_ _ | refine blk_drew ?_ | refine blk_alloc ?_ _)); exact BK470.out))⟩; have n3_ : Aside0 (Below w.heap.size w w28) := ⟨(by rw [hw]; exact Xi)⟩; clear hw; clear BK466; clear BK467; clear BK470; clear HB; have BK466 := n0_; have BK467 := n1_; have BK470 := n2_; have HB := n3_; clear n0_ n1_ n2_ n3_))
  have H := HC23.out
  clear HC23
  obtain ⟨t471, A29, H⟩ := Xbi H
  try dsimp only at H
  by_cases c30 : t471 = true
  ·subst c30
   try rw [if_pos rfl] at H
   obtain ⟨t472, A31, H⟩ := Xbi H
   try dsimp only at H
   have HC32 := Aside0.mk H
   clear H
   have hnb33 := NB470_466.out
   have hnc33 := NB466_470.out
   have hnb34 := NB470_467.out
   have hnc34 := NB467_470.out
   obtain ⟨hcz35_0, hcz35_1, hcz35_2⟩ := Xc3 BK470
   obtain ⟨hfz35_0, hfz35_1, hfz35_2⟩ := Xf3 BK470
   go_upto_if 35 with (first | ((with_reducible refine gate_callee (f := 69) rfl ?_); refine Xgo 27 Tryz.func69 #[.pointer (some ⟨gb466, 0, none⟩), .agg #[.int .i64 ((rd_T39 l1_1 x21_2).f0), .int .i64 ((rd_T39 l1_1 x21_2).f1), .int .i64 ((rd_T39 l1_1 x21_2).f2)]] ?_; (with_reducible refine (impl_Doc_isHold.calls k2 gb466 a0_0 a0_1 A0_2 c0_2 l0_2 ((rd_T39 l1_1 x21_2).f0) ((rd_T39 l1_1 x21_2).f1) ((rd_T39 l1_1 x21_2).f2) true _ ?side1 ?side2 ?side3 A29.out).mono ?_); (case side1 => exact BK466.out); (case side2 => exact Xc HR0_2); (case side3 => exact HC0_2.out); rintro e w36 ⟨rfl, hb⟩; refine ⟨_, rfl, ?_⟩; replace BK466 := Xbb BK466 hb; replace BK467 := Xbb BK467 hb; replace BK470 := Xbb BK470 hb; replace HB := Aside0.mk (below_step Xi hb); clear hb; obtain ⟨hcz37_0, hcz37_1, hcz37_2⟩ := Xc3 BK470; obtain ⟨hfz37_0, hfz37_1, hfz37_2⟩ := Xf3 BK470) | (go_at_call 58; (with_reducible refine (impl_Table_waiting.calls k2 gb467 A1_0 c1_0 l1_0 (some ad469) c1_1 l1_1 ((rd_T39 l1_1 x21_2).f0) t472 _ ?side1 ?side2 ?side3 ?side4 ?side5 A31.out).mono ?_); (case side1 => exact BK467.out); (case side2 => exact Xc HR1_0); (case side3 => exact HC1_0.out); (case side4 => exact Xc HR1_1); (case side5 => exact HC1_1.out); rintro e w38 ⟨rfl, hb⟩; replace BK466 := Xbb BK466 hb; replace BK467 := Xbb BK467 hb; replace BK470 := Xbb BK470 hb; replace HB := Aside0.mk (below_step Xi hb); clear hb))
   have H := HC32.out
   clear HC32
   obtain ⟨c39, H⟩ | ⟨c39, H⟩ := Xiu H
   ·have c39b0 : (t472 == x21_2) = true := beq_iff_eq.mpr c39
    have c39b1 : (t472 != x21_2) = false := bne_eq_false_iff_eq.mpr c39
    clear c39
    (first | rw [c39b0] | (simp only [i64_w, i32_w]; rw [c39b0]) | skip)
    have H' := Aside0.mk H
    clear H
    go_wp2
    go_roundg k2
    case measure => have := HJ2.out; have := HK2.out; omega
    case rel => exact ⟨(wrap64 (x21_2 + 1)), Xr, H', ⟨by have := HJ2.out; have := HK2.out; omega⟩, BK466, BK467, ⟨Xi⟩⟩
   have c39b0 : (t472 == x21_2) = false := beq_eq_false_iff_ne.mpr c39
   have c39b1 : (t472 != x21_2) = true := bne_iff_ne.mpr c39
   (first | rw [c39b0] | (simp only [i64_w, i32_w]; rw [c39b0]) | skip)
   obtain rfl := Option.some.inj H
   go_wp2
   go_ret
   exact ⟨Xe, Xi⟩
  replace c30 := Bool.eq_false_iff.mpr c30
  subst c30
  try rw [if_neg (show ¬ (false = true) by decide)] at H
  obtain rfl := Option.some.inj H
  have hnb40 := NB470_466.out
  have hnc40 := NB466_470.out
  have hnb41 := NB470_467.out
  have hnc41 := NB467_470.out
  obtain ⟨hcz42_0, hcz42_1, hcz42_2⟩ := Xc3 BK470
  obtain ⟨hfz42_0, hfz42_1, hfz42_2⟩ := Xf3 BK470
  go_wp2_with (first | ((with_reducible refine gate_callee (f := 69) rfl ?_); refine Xgo 27 Tryz.func69 #[.pointer (some ⟨gb466, 0, none⟩), .agg #[.int .i64 ((rd_T39 l1_1 x21_2).f0), .int .i64 ((rd_T39 l1_1 x21_2).f1), .int .i64 ((rd_T39 l1_1 x21_2).f2)]] ?_; (with_reducible refine (impl_Doc_isHold.calls k2 gb466 a0_0 a0_1 A0_2 c0_2 l0_2 ((rd_T39 l1_1 x21_2).f0) ((rd_T39 l1_1 x21_2).f1) ((rd_T39 l1_1 x21_2).f2) false _ ?side1 ?side2 ?side3 A29.out).mono ?_); (case side1 => exact BK466.out); (case side2 => exact Xc HR0_2); (case side3 => exact HC0_2.out); rintro e w43 ⟨rfl, hb⟩; refine ⟨_, rfl, ?_⟩; replace BK466 := Xbb BK466 hb; replace BK467 := Xbb BK467 hb; replace BK470 := Xbb BK470 hb; replace HB := Aside0.mk (below_step Xi hb); clear hb))
  go_ret
  exact ⟨Xe, Xi⟩
 obtain rfl := Option.some.inj H
 go_wp2
 go_ret
 exact ⟨Xe, Xi⟩
def impl_tableCode.f (k : Nat) (a0_0 : Int) (a0_1 : Int) (l0_2 : List (S113)) (l1_0 : List (S39)) (l1_1 : List (S39)) (a2 : Int) : Option (Int) := (impl_TableOK.f k a0_0 a0_1 l0_2 l1_0 l1_1).bind fun t475 => (if t475 = true then ((impl_isSession.f a2).bind fun t476 => (if t476 = true then (some 0) else (some 4))) else (some 1))
theorem impl_tableCode.calls (k : Nat) (a0_0 : Int) (a0_1 : Int) (A0_2 : Option Addr) (c0_2 : Nat) (l0_2 : List (S113)) (A1_0 : Option Addr) (c1_0 : Nat) (l1_0 : List (S39)) (A1_1 : Option Addr) (c1_1 : Nat) (l1_1 : List (S39)) (a2 : Int) (r : Int) (w : World) (hr0_2 : Kd.C k113 w A0_2 l0_2.length l0_2) (hc0_2 : l0_2.length ≤ c0_2) (hr1_0 : Kd.C k39 w A1_0 l1_0.length l1_0) (hc1_0 : l1_0.length ≤ c1_0) (hr1_1 : Kd.C k39 w A1_1 l1_1.length l1_1) (hc1_1 : l1_1.length ≤ c1_1) (h : impl_tableCode.f k a0_0 a0_1 l0_2 l1_0 l1_1 a2 = some r) :
  Calls Tryz.prog 57 #[.agg #[.int .i64 a0_0, .int .i64 a0_1, .slice A0_2 l0_2.length c0_2], .agg #[.slice A1_0 l1_0.length c1_0, .slice A1_1 l1_1.length c1_1], .int .i64 a2] w fun e w' => e = .returned (.int .i64 r) ∧ Below w.heap.size w w' := by
 have hu35 := Tryz.underlying35
 have hu53 := Tryz.underlying53
 have HR0_2 := Aside0.mk hr0_2
 have HC0_2 := Aside0.mk hc0_2
 clear hr0_2 hc0_2
 have HR1_0 := Aside0.mk hr1_0
 have HC1_0 := Aside0.mk hc1_0
 clear hr1_0 hc1_0
 have HR1_1 := Aside0.mk hr1_1
 have HC1_1 := Aside0.mk hc1_1
 clear hr1_1 hc1_1
 have HB := Aside0.mk (Below.refl w.heap.size w)
 have H : ((impl_TableOK.f k a0_0 a0_1 l0_2 l1_0 l1_1).bind fun t475 => (if t475 = true then ((impl_isSession.f a2).bind fun t476 => (if t476 = true then (some 0) else (some 4))) else (some 1))) = some r := h
 clear h
 obtain ⟨t475, A4, H⟩ := Xbi H
 try dsimp only at H
 have HC5 := Aside0.mk H
 clear H
 go_enter Tryz.func57, Tryz.ntmps57
 go_upto_if 7 with (first | ((with_reducible refine gate_dst (N := 3) rfl ?_); refine Xbox 3 #[.int .i64 a0_0, .int .i64 a0_1, .slice A0_2 l0_2.length c0_2] 35 ?_; intro gb473 hg w6 hbox hb; have BK473 := Aside0.mk (hbox); have GE473 := Xge hg Xi; replace HB := Aside0.mk (below_step Xi hb); clear hb hbox hg) | ((with_reducible refine gate_dst (N := 4) rfl ?_); refine Xbox 4 #[.slice A1_0 l1_0.length c1_0, .slice A1_1 l1_1.length c1_1] 53 ?_; intro gb474 hg w7 hbox hb; have BK474 := Aside0.mk (hbox); have GE474 := Xge hg Xi; replace HB := Aside0.mk (below_step Xi hb); have NB473_474 := Xnb hg BK473; have NB474_473 := Xns NB473_474; replace BK473 := Xbb BK473 hb; clear hb hbox hg; have hnb8 := NB473_474.out; have hnc8 := NB474_473.out; obtain ⟨hcz9_0, hcz9_1, hcz9_2⟩ := Xc3 BK473; obtain ⟨hcz10_0, hcz10_1⟩ := Xc2 BK474) | ((with_reducible refine gate_callee (f := 106) rfl ?_); refine Xgo 10 Tryz.func106 #[.agg #[.int .i64 a0_0, .int .i64 a0_1, .slice A0_2 l0_2.length c0_2], .agg #[.slice A1_0 l1_0.length c1_0, .slice A1_1 l1_1.length c1_1]] ?_; (with_reducible refine (impl_TableOK.calls k a0_0 a0_1 _ _ l0_2 _ _ l1_0 _ _ l1_1 t475 _ ?side1 ?side2 ?side3 ?side4 ?side5 ?side6 A4.out).mono ?_); (case side1 => exact Xc HR0_2); (case side2 => exact HC0_2.out); (case side3 => exact Xc HR1_0); (case side4 => exact HC1_0.out); (case side5 => exact Xc HR1_1); (case side6 => exact HC1_1.out); rintro e w11 ⟨rfl, hb⟩; refine ⟨_, rfl, ?_⟩; replace BK473 := Xbb BK473 hb; replace BK474 := Xbb BK474 hb; replace HB := Aside0.mk (below_step Xi hb); clear hb))
 have H := HC5.out
 clear HC5
 by_cases c12 : t475 = true
 ·subst c12
  try rw [if_pos rfl] at H
  obtain ⟨t476, A13, H⟩ := Xbi H
  try dsimp only at H
  have HC14 := Aside0.mk H
  clear H
  go_upto_if 12 with (first | ((with_reducible refine gate_callee (f := 107) rfl ?_); refine Xgo 14 Tryz.func107 #[.int .i64 a2] ?_; (with_reducible refine (impl_isSession.calls a2 t476 _ A13.out).mono ?_); rintro e w' ⟨rfl, ⟨nd, rfl⟩⟩; refine ⟨_, rfl, ?_⟩))
  have H := HC14.out
  clear HC14
  by_cases c15 : t476 = true
  ·subst c15
   try rw [if_pos rfl] at H
   obtain rfl := Option.some.inj H
   go_wp2
   go_ret
   exact ⟨Xe, Xi⟩
  replace c15 := Bool.eq_false_iff.mpr c15
  subst c15
  try rw [if_neg (show ¬ (false = true) by decide)] at H
  obtain rfl := Option.some.inj H
  go_wp2
  go_ret
  exact ⟨Xe, Xi⟩
 replace c12 := Bool.eq_false_iff.mpr c12
 subst c12
 try rw [if_neg (show ¬ (false = true) by decide)] at H
 obtain rfl := Option.some.inj H
 go_wp2
 go_ret
 exact ⟨Xe, Xi⟩
def impl_sessionsOf.l0 : Nat → List Int → List (S39) → Int → Int → Option (List Int)
 | 0, _, _, _, _ => none
 | k + 1, x3, x6, x7, x8 => if x8 < x7 then (if 0 ≤ x8 then (if x8 < (x6.length : Int) then (if x3.length < 17592186044416 then (impl_sessionsOf.l0 k (x3 ++ [(rd_T39 x6 x8).f0]) x6 x7 (wrap64 (x8 + 1))) else (none)) else (none)) else (none)) else ((slices_Sort_int_int.f x3).bind fun t482 => ((slices_Compact_int_int.f t482).bind fun t483 => (some t483)))
def impl_sessionsOf.f (k : Nat) (l0 : List (S39)) : Option (List Int) := impl_sessionsOf.l0 k ([] : List Int) l0 (l0.length : Int) 0
theorem impl_sessionsOf.calls (k : Nat) (A0 : Option Addr) (c0 : Nat) (l0 : List (S39)) (r : List Int) (w : World) (hr0 : Kd.C k39 w A0 l0.length l0) (hc0 : l0.length ≤ c0) (h : impl_sessionsOf.f k l0 = some r) :
  Calls Tryz.prog 94 #[.slice A0 l0.length c0] w fun e w' => ∃ v0_ : Value, e = .returned (v0_) ∧ Kd.R (Kd.int .i64) 3 w' w.heap.size (fun _ => True) v0_ r ∧ Below w.heap.size w w' := by
 have hu39 := Tryz.underlying39
 have HR0 := Aside0.mk hr0
 have HC0 := Aside0.mk hc0
 clear hr0 hc0
 have HB := Aside0.mk (Below.refl w.heap.size w)
 have H : (impl_sessionsOf.l0 k ([] : List Int) l0 (l0.length : Int) 0) = some r := h
 clear h
 have H' := Aside0.mk H
 clear H
 go_enter Tryz.func94, Tryz.ntmps94
 go_wp2
 go_loopg [3, 8] k (fun kq v3 v8 w' => ∃ (x3_1 : List Int) (x8_1 : Int), v8 = .int .i64 x8_1 ∧ Aside0 (impl_sessionsOf.l0 kq x3_1 l0 (l0.length : Int) x8_1 = some r) ∧ Aside0 (kq ≤ k) ∧ Aside0 (Kd.R (Kd.int .i64) 3 w' w.heap.size (fun _ => True) v3 x3_1) ∧ Aside0 (Below w.heap.size w w'))
 case atStart => exact ⟨(([] : List Int)), (0), Xr, H', Xkr, ⟨by first | exact Kd.R_nil _ _ _ _ _ | exact Kd.N_nil _ _ _ _ _ | exact Kd.V_nil _ _ _ _ _ | exact Kd.Q_nil _ _ _ _ _ | exact Kd.S_nil _ _ _ _ _⟩, ⟨Xi⟩⟩
 clear H'
 obtain ⟨x3_1, x8_1, rfl, HA, HK1, HO_3, HB⟩ := hrel
 cases gk with | zero => cases HA.out | succ k1 => ?_
 have H := HA.out
 clear HA
 simp only [impl_sessionsOf.l0] at H
 obtain ⟨c2b0, H⟩ | ⟨c2b0, H⟩ := Xit H
 ·obtain ⟨c3b0, H⟩ := Xid H
  obtain ⟨c4b0, H⟩ := Xid H
  obtain ⟨c5, H⟩ := Xif H
  have LMc5 := Aside0.mk c5
  clear c5
  obtain ⟨y479, hy479⟩ : ∃ y_ : List Int, y_ = (x3_1 ++ [(rd_T39 l0 x8_1).f0]) := ⟨_, rfl⟩
  replace H : (impl_sessionsOf.l0 k1 y479 l0 (l0.length : Int) (wrap64 (x8_1 + 1))) = some r := by first | (rw [hy479]; with_reducible exact H) | (have H2_ := (Option.bind_some _ _).symm.trans H; rw [hy479]; with_reducible exact H2_) | (have H2_ := (Option.bind_some _ _).symm.trans H; with_reducible exact H2_) | with_reducible exact H | (rw [hy479]; exact H) | exact H
  have Ny479 := Aside0.mk hy479
  clear hy479
  have H' := Aside0.mk H
  clear H
  obtain ⟨ad477, e477, p477, q477, hx477_0, hx477_1, hx477_2⟩ := at_B39 HR0 x8_1 Xa Xa HB
  cases e477
  go_wp2_with (first | ((with_reducible refine gate_dst (N := 5) rfl ?_); refine Xbox 5 #[.int .i64 0, .int .i64 0, .int .i64 0] 39 ?_; intro gb478 hg w6 hbox hb; replace HO_3 := Aside0.mk (Kd.R_below (Xq HO_3) hb); have BK478 := Aside0.mk (hbox); have GE478 := Xge hg Xi; replace HB := Aside0.mk (below_step Xi hb); clear hb hbox hg; obtain ⟨hcz7_0, hcz7_1, hcz7_2⟩ := Xc3 BK478; obtain ⟨hfz7_0, hfz7_1, hfz7_2⟩ := Xf3 BK478) | ((with_reducible refine gate_store (t := 39) (p := 5) rfl ?_); refine store_event (t := 39) (p := 5) (v := ?vo_w8) (w1 := (((w6.setCell ⟨gb478, 0, none⟩ (.int .i64 ((rd_T39 l0 x8_1).f0))).setCell ⟨gb478, 1, none⟩ (.int .i64 ((rd_T39 l0 x8_1).f1))).setCell ⟨gb478, 2, none⟩ (.int .i64 ((rd_T39 l0 x8_1).f2)))) ?hg ?ho ?hn ?hr ?_; (case ho => rfl); (case hg => rfl); (case hn => rfl); (case hr => first | (go_simp; done) | (go_simp; rfl)); intro w8 hw; have n0_ : Aside0 (Kd.R (Kd.int .i64) 3 w8 w.heap.size (fun _ => True) u3 x3_1) := ⟨(by rw [hw]; exact (by (with_reducible repeat (first | apply Kd.R_alloc | apply Kd.R_drewN | apply Kd.R_drew)); exact Kd.R_mono (Kd.R_far (p := ⟨gb478, 2, none⟩) (Kd.R_far (p := ⟨gb478, 1, none⟩) (Kd.R_far (p := ⟨gb478, 0, none⟩) (Kd.R_types HO_3.out BK478.out (by decide)) (fun _ hk => hk.2) (.int .i64 ((rd_T39 l0 x8_1).f0))) (fun _ hk => hk.2) (.int .i64 ((rd_T39 l0 x8_1).f1))) (fun _ hk => hk.2) (.int .i64 ((rd_T39 l0 x8_1).f2))) (fun _ hk => trivial)))⟩; have n1_ : Aside0 (w8.heap[gb478]? = some (.cells #[.int .i64 ((rd_T39 l0 x8_1).f0), .int .i64 ((rd_T39 l0 x8_1).f1), .int .i64 ((rd_T39 l0 x8_1).f2)] 39 (0, 0))) := ⟨(by rw [hw]; exact (by (with_reducible repeat (first | refine blk_drewN ?_ _ | refine blk_drew ?_ | refine blk_alloc ?_ _)); refine blk_put (cs := #[.int .i64 ((rd_T39 l0 x8_1).f0), .int .i64 ((rd_T39 l0 x8_1).f1), .int .i64 0]) ?_ 2 _ rfl; (with_reducible repeat (first | refine blk_drewN ?_ _ | refine blk_drew ?_ | refine blk_alloc ?_ _)); refine blk_put (cs := #[.int .i64 ((rd_T39 l0 x8_1).f0), .int .i64 0, .int .i64 0]) ?_ 1 _ rfl; (with_reducible repeat (first | refine blk_drewN ?_ _ | refine blk_drew ?_ | refine blk_alloc ?_ _)); refine blk_put (cs := #[.int .i64 0, .int .i64 0, .int .i64 0]) ?_ 0 _ rfl; (with_reducible repeat (first | refine blk_drewN ?_ _ | refine blk_drew ?_ | refine blk_alloc ?_ _)); exact BK478.out))⟩; have n2_ : Aside0 (Below w.heap.size w w8) := ⟨(by rw [hw]; exact Xi)⟩; clear hw; clear HO_3; clear BK478; clear HB; have HO_3 := n0_; have BK478 := n1_; have HB := n2_; clear n0_ n1_ n2_; obtain ⟨hcz9_0, hcz9_1, hcz9_2⟩ := Xc3 BK478; obtain ⟨hfz9_0, hfz9_1, hfz9_2⟩ := Xf3 BK478) | ((with_reducible refine gate_builtin (b := .append) (xs := #[.tmp 12, .tmp 15]) rfl ?_); at_builtin; refine Kd.R_append (Kd.int .i64) (w0 := w) w.heap.size rfl (.tmp 12) (.tmp 15) 30 3 (.int .i64 0) 8 rfl Tryz.underlying30 info3 rfl (by decide) (by omega) u3 x3_1 ((rd_T39 l0 x8_1).f0) [.int .i64 ((rd_T39 l0 x8_1).f0)] (fun _ => True) (fun _ => False) rfl rfl ?aP (fun _ hk => hk.elim) ?aF ?aO ?aB ?aS ?aL ?_; (case aP => exact rfl); (case aB => exact Xi); (case aF => exact (fun _ _ => trivial)); (case aO => exact (Xq HO_3)); (case aS => exact (below_size Xi)); (case aL => have := LMc5.out; omega); intro v480 w10 ho hb hg hat; rw [← Ny479.out] at ho; replace BK478 := Aside0.mk (blk_grown (g := gb478) (o := .cells #[.int .i64 ((rd_T39 l0 x8_1).f0), .int .i64 ((rd_T39 l0 x8_1).f1), .int .i64 ((rd_T39 l0 x8_1).f2)] 39 (0, 0)) (Xq' BK478) hg (Kd.R_ne HO_3.out BK478.out (by decide))); replace HB := Aside0.mk (hb); have HO481 := Aside0.mk (ho); clear HO_3; clear ho hb hg hat))
  go_roundg k1
  case measure => have := HK1.out; omega
  case rel => exact ⟨(y479), (wrap64 (x8_1 + 1)), Xr, H', Xk1, (Xp' HO481), ⟨Xi⟩⟩
 obtain ⟨t482, A11, H⟩ := Xbi H
 try dsimp only at H
 obtain ⟨t483, A12, H⟩ := Xbi H
 try dsimp only at H
 obtain rfl := Option.some.inj H
 obtain ⟨Ao13, co13, eo13⟩ := Kd.R_slice HO_3.out
 subst eo13
 go_wp2_with (first | ((with_reducible refine gate_callee (f := 111) rfl ?_); refine Xgo 19 Tryz.func111 #[.slice Ao13 x3_1.length co13] ?_; (with_reducible refine (slices_Sort_int_int.calls (fun k_ => some k_ = (.slice Ao13 x3_1.length co13 : Value).ownBlock) (.slice Ao13 x3_1.length co13) x3_1 t482 w _ ?side1 ?side2 A11.out).mono ?_); (case side1 => exact Xi); (case side2 => exact Kd.R_tight rfl HO_3.out); rintro e w14 ⟨rfl, hy0, hb, hkp⟩; refine ⟨_, rfl, ?_⟩; replace HO_3 := Aside0.mk (Kd.R_reok rfl hy0 (fun k_ e_ => HO_3.out.1 k_ e_)); replace HB := Aside0.mk (hb); (try clear hb); (try clear hkp); (try clear hy0)) | ((with_reducible refine gate_callee (f := 112) rfl ?_); refine Xgo 21 Tryz.func112 #[.slice Ao13 x3_1.length co13] ?_; (with_reducible refine (slices_Compact_int_int.calls (fun k_ => some k_ = (.slice Ao13 x3_1.length co13 : Value).ownBlock) (.slice Ao13 x3_1.length co13) t482 t483 w _ ?side1 ?side2 A12.out).mono ?_); (case side1 => exact Xi); (case side2 => exact Kd.R_tight rfl HO_3.out); rintro e w15 ⟨v484, rfl, ho0, hb, hkp⟩; refine ⟨_, rfl, ?_⟩; have HO485 := Aside0.mk (Kd.R_mono (ok' := fun k_ => True) ho0 (fun k_ hk_ => trivial)); replace HB := Aside0.mk (hb); clear HO_3; (try clear hb); (try clear hkp); (try clear ho0)))
 go_ret
 exact ⟨_, Xe, Xq HO485, Xi⟩
def slices_Reverse_int_int.l0 : Nat → List Int → Int → Int → Option (List Int)
 | 0, _, _, _ => none
 | k + 1, x0, x2, x3 => if x2 < x3 then (if 0 ≤ x3 then (if x3 < (x0.length : Int) then (if 0 ≤ x2 then (if x2 < (x0.length : Int) then (slices_Reverse_int_int.l0 k ((x0.set (x2 : Int).toNat (rd x0 x3)).set (x3 : Int).toNat (rd x0 x2)) (wrap64 (x2 + 1)) (wrap64 (x3 - 1))) else (none)) else (none)) else (none)) else (none)) else (some x0)
def slices_Reverse_int_int.f (k : Nat) (l0 : List Int) : Option (List Int) := slices_Reverse_int_int.l0 k l0 0 (wrap64 ((l0.length : Int) - 1))
def slices_Reverse_int_int.T3 : Bool × List (List Nat × List Nat) := (true, [([], []), ([], []), ([], []), ([], []), ([], []), ([], []), ([4, 5], [4, 5]), ([6], [6]), ([], []), ([], []), ([8, 9], [8, 9]), ([10], [10]), ([0, 1, 0, 1, 4, 5, 6, 7, 11], [0, 1]), ([12, 7, 0, 1, 4, 5, 6, 7, 11], [7, 12]), ([2, 3, 0, 1, 2, 3, 4, 5, 6, 7, 8, 9, 10, 11, 12, 13], [2, 3]), ([14, 11, 13, 0, 1, 2, 3, 4, 5, 6, 7, 8, 9, 10, 11, 12, 13], [11, 14])])
def slices_Reverse_int_int.B3 : List Nat := [0, 0, 0, 0, 0, 0, 48, 112, 0, 0, 768, 1792, 4083, 8179, 16383, 32767]
theorem slices_Reverse_int_int.tab3 : rtab .any (opsOf Tryz.f131 3) = slices_Reverse_int_int.T3 := by kernel_rfl
theorem slices_Reverse_int_int.bits3 : waitsOk slices_Reverse_int_int.T3.2 slices_Reverse_int_int.B3 = true := by kernel_rfl
theorem slices_Reverse_int_int.calls (k : Nat) (P0_ : Nat → Prop) (u9000_ : Value) (l0 : List Int) (r : List Int) (w0 w : World) (hB : Below w0.heap.size w0 w) (ho0 : Kd.R (Kd.int .i64) 3 w w0.heap.size P0_ u9000_ l0) (h : slices_Reverse_int_int.f k l0 = some r) :
  Calls Tryz.prog 131 #[u9000_] w fun e w' => e = .returned (.tuple #[]) ∧ Kd.R (Kd.int .i64) 3 w' w0.heap.size (fun k_ => (P0_ k_ ∨ w.heap.size ≤ k_)) u9000_ r ∧ Below w0.heap.size w0 w' ∧ Kept w w' (fun k_ => P0_ k_) := by
 have HO0 := Aside0.mk (show Kd.R (Kd.int .i64) 3 w w0.heap.size (fun k_ => (P0_ k_ ∨ w.heap.size ≤ k_)) u9000_ l0 from Kd.R_mono ho0 (fun k_ hk => (.inl hk)))
 have HK := Aside0.mk (Kept.refl w (fun k_ => P0_ k_))
 have HW0 := Aside0.mk hB.size
 have HB := Aside0.mk hB
 clear hB
 have H : (slices_Reverse_int_int.l0 k l0 0 (wrap64 ((l0.length : Int) - 1))) = some r := h
 clear h
 have H' := Aside0.mk H
 clear H
 obtain ⟨Ao2, co2, eo2⟩ := Kd.R_slice HO0.out
 subst eo2
 go_enter Tryz.func131, Tryz.ntmps131
 go_wp2
 go_loopg [2, 3] k (fun kq v2 v3 w' => ∃ (x0_1 : List Int) (x2_1 : Int) (x3_1 : Int), v2 = .int .i64 x2_1 ∧ v3 = .int .i64 x3_1 ∧ Aside0 (slices_Reverse_int_int.l0 kq x0_1 x2_1 x3_1 = some r) ∧ Aside0 (kq ≤ k) ∧ Aside0 (Kd.R (Kd.int .i64) 3 w' w0.heap.size (fun k_ => (P0_ k_ ∨ w.heap.size ≤ k_)) (.slice Ao2 l0.length co2) x0_1) ∧ Aside0 (Kept w w' (fun k_ => P0_ k_)) ∧ Aside0 (Below w0.heap.size w0 w'))
 case atStart => exact ⟨(l0), (0), (wrap64 ((l0.length : Int) - 1)), Xr, Xr, H', Xkr, (Xp' HO0), ⟨by repeat first | (with_reducible first | exact HK.out | apply Kept.drewN | apply Kept.drew) | exact HK.out⟩, ⟨Xi⟩⟩
 clear H'
 obtain ⟨x0_1, x2_1, x3_1, rfl, rfl, HA, HK1, HO_0, HK, HB⟩ := hrel
 have hl0_1 := (Kd.R_reads' HO_0.out).1
 rw [hl0_1] at HO_0
 (try simp only [hl0_1])
 cases gk with | zero => cases HA.out | succ k1 => ?_
 have H := HA.out
 clear HA
 simp only [slices_Reverse_int_int.l0] at H
 obtain ⟨c3b0, H⟩ | ⟨c3b0, H⟩ := Xit H
 ·obtain ⟨c4b0, H⟩ := Xid H
  obtain ⟨c5b0, H⟩ := Xid H
  obtain ⟨c6b0, H⟩ := Xid H
  obtain ⟨c7b0, H⟩ := Xid H
  obtain ⟨y496, hy496⟩ : ∃ y_ : List Int, y_ = (x0_1.set (x2_1 : Int).toNat (rd x0_1 x3_1)) := ⟨_, rfl⟩
  replace H : (slices_Reverse_int_int.l0 k1 (y496.set (x3_1 : Int).toNat (rd x0_1 x2_1)) (wrap64 (x2_1 + 1)) (wrap64 (x3_1 - 1))) = some r := by first | (rw [hy496]; with_reducible exact H) | (have H2_ := (Option.bind_some _ _).symm.trans H; rw [hy496]; with_reducible exact H2_) | (have H2_ := (Option.bind_some _ _).symm.trans H; with_reducible exact H2_) | with_reducible exact H | (rw [hy496]; exact H) | exact H
  have Ny496 := Aside0.mk hy496
  clear hy496
  obtain ⟨y497, hy497⟩ : ∃ y_ : List Int, y_ = (y496.set (x3_1 : Int).toNat (rd x0_1 x2_1)) := ⟨_, rfl⟩
  replace H : (slices_Reverse_int_int.l0 k1 y497 (wrap64 (x2_1 + 1)) (wrap64 (x3_1 - 1))) = some r := by first | (rw [hy497]; with_reducible exact H) | (have H2_ := (Option.bind_some _ _).symm.trans H; rw [hy497]; with_reducible exact H2_) | (have H2_ := (Option.bind_some _ _).symm.trans H; with_reducible exact H2_) | with_reducible exact H | (rw [hy497]; exact H) | exact H
  have Ny497 := Aside0.mk hy497
  clear hy497
  have H' := Aside0.mk H
  clear H
  try go_wp2_with (fail)
  replace HO_0 := Aside0.mk (Kd.R_drew HO_0.out)
  replace HK := Aside0.mk (Kept.drew HK.out)
  replace HB := Aside0.mk (below_drew1 HB.out)
  have p494 : 0 ≤ (x3_1 : Int) := of_decide_eq_true Xa
  have q494 : x3_1 < (x0_1.length : Int) := of_decide_eq_true Xa
  obtain ⟨ad494, e494, hx494_0⟩ := Kd.at_int (Kd.R_reads' HO_0.out).2.2 x3_1 p494 q494
  cases e494
  replace p494 := eq_true p494
  replace q494 := eq_true q494
  have p495 : 0 ≤ (x2_1 : Int) := of_decide_eq_true Xa
  have q495 : x2_1 < (x0_1.length : Int) := of_decide_eq_true Xa
  obtain ⟨ad495, e495, hx495_0⟩ := Kd.at_int (Kd.R_reads' HO_0.out).2.2 x2_1 p495 q495
  obtain rfl : ad494 = ad495 := (by injection e495)
  replace p495 := eq_true p495
  replace q495 := eq_true q495
  have p8 : 0 ≤ (x2_1 : Int) := of_decide_eq_true Xa
  have q8 : (x2_1 : Int) < ((x0_1.length : Int) : Int) := of_decide_eq_true Xa
  obtain ⟨go8, co8, eo8, gb8, gl8, cl8, HG8⟩ := Kd.R_form HO_0.out (by omega)
  (first | cases eo8 | (injection eo8 with ea_ en_ ec_; (first | subst ea_ | (injection ea_ with ea_; subst ea_)); subst ec_; clear en_))
  have GB8 := Aside0.mk gb8
  have GG8 := Aside0.mk HG8
  clear gb8 gl8 HG8
  have HMgo8 := Aside0.mk (show (P0_ go8 ∨ w.heap.size ≤ go8) from (HO_0.out.1 _ rfl))
  (first | simp only [add_plain] at hx494_0 | skip)
  (first | simp only [add_plain] at hx495_0 | skip)
  obtain ⟨hx8_0, hf8_0⟩ := Kd.R_celln 0 HO_0.out (x2_1 : Int) p8 q8
  replace p8 := eq_true p8
  replace q8 := eq_true q8
  have HP11 := Kd.R_putn HO_0.out (x2_1 : Int) (rd x0_1 x3_1)
  rw [← Ny496.out] at HP11
  have HQ11 := Aside0.mk HP11
  clear HP11
  have p9 : 0 ≤ (x3_1 : Int) := of_decide_eq_true Xa
  have q9 : (x3_1 : Int) < ((x0_1.length : Int) : Int) := of_decide_eq_true Xa
  obtain ⟨hx9_0, hf9_0⟩ := Kd.R_celln 0 HQ11.out (x3_1 : Int) p9 q9
  replace p9 := eq_true p9
  replace q9 := eq_true q9
  have HP12 := Kd.R_putn HQ11.out (x3_1 : Int) (rd x0_1 x2_1)
  rw [← Ny497.out] at HP12
  have HQ12 := Aside0.mk HP12
  clear HP12
  refine start_ (n := 16) (S := fun w' => w'.cell? ⟨go8, (x3_1).toNat, none⟩ = some (.int .i64 (rd x0_1 x3_1)) ∧ w'.cell? ⟨go8, (x2_1).toNat, none⟩ = some (.int .i64 (rd x0_1 x2_1))) (ds := [13, 15]) #[false, false, false, false, false, false, false, false, false, false, false, false, false, false, false, false] (by kernel_rfl) rfl rfl ⟨hx494_0, hx495_0⟩ (fun hHeld => ?_); refine with_tabW slices_Reverse_int_int.tab3 slices_Reverse_int_int.bits3 (fun HT_ HW_ => ?_)
  generalize wr.drew = w10 at HO_0 HK HB GG8 HQ11 HQ12 hf8_0 hf9_0 hx494_0 hx495_0 hx8_0 hx9_0 hHeld ⊢
  refine Xpu 0 14 (XW.bs 16 1) HT_.out ?_
  refine Xpu 1 15 (XW.bs 16 3) HT_.out ?_
  refine Xpu 2 16 (XW.bs 16 7) HT_.out ?_
  refine Xpu 3 17 (XW.bs 16 15) HT_.out ?_
  refine Xpu 4 18 (XW.bs 16 31) HT_.out ?_
  refine Xpu 5 19 (XW.bs 16 63) HT_.out ?_
  refine Xpu 6 20 (XW.bs 16 127) HT_.out ?_
  refine Xpu 8 22 (XW.bs 16 383) HT_.out ?_
  refine Xpu 9 23 (XW.bs 16 895) HT_.out ?_
  refine Xpu 10 24 (XW.bs 16 1919) HT_.out ?_
  refine Xta 7 21 (XW.bs 16 2047) HT_.out HW_.out hHeld ?_
  refine Xta 11 25 (XW.bs 16 4095) HT_.out HW_.out hHeld ?_
  refine Xpu 12 26 (XW.bs 16 8191) HT_.out ?_
  refine last_ (i := 13) (N := none) #[true, true, true, true, true, true, true, true, true, true, true, true, true, true, false, false] rfl rfl (one_of HT_.out (by kernel_rfl)) (by decide) (fun K hK => ?_)
  refine skip_ (w1 := ?_) (by rfl) rfl ?_ ?_
  rotate_left
  ·go_simp
   rfl
  refine hK.out _ _ ?_
  clear hK K
  refine Xpu 14 27 (XW.bs 16 32767) HT_.out ?_
  refine last_ (i := 15) (N := none) #[true, true, true, true, true, true, true, true, true, true, true, true, true, true, true, true] rfl rfl (one_of HT_.out (by kernel_rfl)) (by decide) (fun K hK => ?_)
  refine skip_ (w1 := ?_) (by rfl) rfl ?_ ?_
  rotate_left
  ·go_simp
   rfl
  refine hK.out _ _ ?_
  clear hK K
  refine done_ (done_of HT_.out (by kernel_rfl)) ?_
  try go_wp2_with (fail)
  (try simp only [← hl0_1])
  go_roundg k1
  case measure => have := HK1.out; omega
  case rel => exact ⟨(y497), (wrap64 (x2_1 + 1)), (wrap64 (x3_1 - 1)), Xr, Xr, H', Xk1, ⟨by (try simp only [hl0_1]); (with_reducible repeat (first | apply Kd.R_alloc | apply Kd.R_drewN | apply Kd.R_drew)); exact HQ12.out⟩, ⟨by repeat first | (with_reducible first | exact HK.out | apply Kept.drewN | apply Kept.drew | refine Kept.setCell ?_ HMgo8.out _ | refine Kept.setCell ?_ HMgo8.out _) | exact HK.out⟩, ⟨by repeat first | (with_reducible first | exact HB.out | apply XW.bN | apply XW.bD | refine below_set ?_ GB8.out | refine below_set ?_ GB8.out) | exact HB.out⟩⟩
 obtain rfl := Option.some.inj H
 go_wp2
 first | go_end0 | ((try simp only [Exit.inBlock, Exit.then]); refine bodyPost_ret (results_none rfl _ _ _) rfl ?_)
 exact ⟨Xe, (by first | exact (Xq HO_0) | (simp only [hl0_1]; exact (Xq HO_0))), Xi, by repeat first | (with_reducible first | exact HK.out | apply Kept.drewN | apply Kept.drew) | exact HK.out⟩
def slices_Index_int_int.l0 : Nat → List Int → Int → Int → Int → Option (Int)
 | 0, _, _, _, _ => none
 | k + 1, x0, x1, x7, x8 => if x8 < x7 then (if 0 ≤ x8 then (if x8 < (x0.length : Int) then (if x1 = (rd x0 x8) then (some x8) else (slices_Index_int_int.l0 k x0 x1 x7 (wrap64 (x8 + 1)))) else (none)) else (none)) else (some (-1))
def slices_Index_int_int.f (k : Nat) (l0 : List Int) (a1 : Int) : Option (Int) := slices_Index_int_int.l0 k l0 a1 (l0.length : Int) 0
theorem slices_Index_int_int.calls (k : Nat) (A0 : Option Addr) (c0 : Nat) (l0 : List Int) (a1 : Int) (r : Int) (w : World) (hr0 : Kd.C (Kd.int .i64) w A0 l0.length l0) (hc0 : l0.length ≤ c0) (h : slices_Index_int_int.f k l0 a1 = some r) :
  Calls Tryz.prog 153 #[.slice A0 l0.length c0, .int .i64 a1] w fun e w' => e = .returned (.int .i64 r) ∧ Drawn0 w w' := by
 have HR0 := Aside0.mk hr0
 have HC0 := Aside0.mk hc0
 clear hr0 hc0
 have H : (slices_Index_int_int.l0 k l0 a1 (l0.length : Int) 0) = some r := h
 clear h
 have H' := Aside0.mk H
 clear H
 go_enter Tryz.func153, Tryz.ntmps153
 go_wp2
 go_loopg [8] k (fun kq v8 w' => ∃ (x8_1 : Int), v8 = .int .i64 x8_1 ∧ Aside0 (slices_Index_int_int.l0 kq l0 a1 (l0.length : Int) x8_1 = some r) ∧ Aside0 (kq ≤ k) ∧ Drawn0 w w')
 case atStart => exact ⟨(0), Xr, H', Xkr, by repeat (first | exact Drawn0.refl _ | apply Drawn0.step)⟩
 clear H'
 obtain ⟨x8_1, rfl, HA, HK1, ⟨m1, rfl⟩⟩ := hrel
 cases gk with | zero => cases HA.out | succ k1 => ?_
 have H := HA.out
 clear HA
 simp only [slices_Index_int_int.l0] at H
 obtain ⟨c3b0, H⟩ | ⟨c3b0, H⟩ := Xit H
 ·obtain ⟨c4b0, H⟩ := Xid H
  obtain ⟨c5b0, H⟩ := Xid H
  obtain ⟨c6, H⟩ | ⟨c6, H⟩ := Xiu H
  ·have c6b0 : (a1 == (rd l0 x8_1)) = true := beq_iff_eq.mpr c6
   have c6b1 : (a1 != (rd l0 x8_1)) = false := bne_eq_false_iff_eq.mpr c6
   clear c6
   obtain rfl := Option.some.inj H
   have p504 : 0 ≤ (x8_1 : Int) := of_decide_eq_true Xa
   have q504 : x8_1 < (l0.length : Int) := of_decide_eq_true Xa
   obtain ⟨ad504, e504, hx504_0⟩ := Kd.at_int HR0.out x8_1 p504 q504
   cases e504
   replace p504 := eq_true p504
   replace q504 := eq_true q504
   go_wp2
   go_ret
   exact ⟨Xr, Xdr⟩
  have c6b0 : (a1 == (rd l0 x8_1)) = false := beq_eq_false_iff_ne.mpr c6
  have c6b1 : (a1 != (rd l0 x8_1)) = true := bne_iff_ne.mpr c6
  have H' := Aside0.mk H
  clear H
  have p504 : 0 ≤ (x8_1 : Int) := of_decide_eq_true Xa
  have q504 : x8_1 < (l0.length : Int) := of_decide_eq_true Xa
  obtain ⟨ad504, e504, hx504_0⟩ := Kd.at_int HR0.out x8_1 p504 q504
  cases e504
  replace p504 := eq_true p504
  replace q504 := eq_true q504
  go_wp2
  go_roundg k1
  case measure => have := HK1.out; omega
  case rel => exact ⟨(wrap64 (x8_1 + 1)), Xr, H', Xk1, by repeat (first | exact Drawn0.refl _ | apply Drawn0.step)⟩
 obtain rfl := Option.some.inj H
 go_wp2
 go_ret
 exact ⟨Xr, Xdr⟩
def slices_Contains_int_int.f (k : Nat) (l0 : List Int) (a1 : Int) : Option (Bool) := (slices_Index_int_int.f k l0 a1).bind fun t505 => (some (decide (t505 ≥ 0)))
theorem slices_Contains_int_int.calls (k : Nat) (A0 : Option Addr) (c0 : Nat) (l0 : List Int) (a1 : Int) (r : Bool) (w : World) (hr0 : Kd.C (Kd.int .i64) w A0 l0.length l0) (hc0 : l0.length ≤ c0) (h : slices_Contains_int_int.f k l0 a1 = some r) :
  Calls Tryz.prog 116 #[.slice A0 l0.length c0, .int .i64 a1] w fun e w' => e = .returned (.bool r) ∧ Drawn0 w w' := by
 have HR0 := Aside0.mk hr0
 have HC0 := Aside0.mk hc0
 clear hr0 hc0
 have H : ((slices_Index_int_int.f k l0 a1).bind fun t505 => (some (decide (t505 ≥ 0)))) = some r := h
 clear h
 obtain ⟨t505, A3, H⟩ := Xbi H
 try dsimp only at H
 obtain rfl := Option.some.inj H
 go_enter Tryz.func116, Tryz.ntmps116
 go_wp2_with (first | ((with_reducible refine gate_callee (f := 153) rfl ?_); refine Xgo 7 Tryz.func153 #[.slice A0 l0.length c0, .int .i64 a1] ?_; (with_reducible refine (slices_Index_int_int.calls k _ _ l0 a1 t505 _ ?side1 ?side2 A3.out).mono ?_); (case side1 => repeat (first | exact HR0.out | (with_reducible first | refine Kd.C_alloc ?_ _ | refine Kd.C_drewN ?_ _ | refine Kd.C_drew ?_))); (case side2 => exact HC0.out); rintro e w' ⟨rfl, ⟨nd, rfl⟩⟩; refine ⟨_, rfl, ?_⟩))
 go_ret
 exact ⟨Xr, Xdr⟩
def impl_Doc_parent.l0 : Nat → Int → List (S113) → Int → Int → Option (Int)
 | 0, _, _, _, _ => none
 | k + 1, x1, x10, x11, x12 => if x12 < x11 then (if 0 ≤ x12 then (if x12 < (x10.length : Int) then ((slices_Contains_int_int.f k ((rd_T113 x10 x12).f4) x1).bind fun t508 => (if t508 = true then (some ((rd_T113 x10 x12).f0)) else (impl_Doc_parent.l0 k x1 x10 x11 (wrap64 (x12 + 1))))) else (none)) else (none)) else (some 0)
def impl_Doc_parent.f (k : Nat) (a0_0 : Int) (a0_1 : Int) (l0_2 : List (S113)) (a1 : Int) : Option (Int) := impl_Doc_parent.l0 k a1 l0_2 (l0_2.length : Int) 0
theorem impl_Doc_parent.calls (k : Nat) (g0_ : Nat) (a0_0 : Int) (a0_1 : Int) (A0_2 : Option Addr) (c0_2 : Nat) (l0_2 : List (S113)) (a1 : Int) (r : Int) (w : World) (hg0_ : w.heap[g0_]? = some (.cells #[.int .i64 a0_0, .int .i64 a0_1, .slice A0_2 l0_2.length c0_2] 35 (0, 0))) (hr0_2 : Kd.C k113 w A0_2 l0_2.length l0_2) (hc0_2 : l0_2.length ≤ c0_2) (h : impl_Doc_parent.f k a0_0 a0_1 l0_2 a1 = some r) :
  Calls Tryz.prog 130 #[.pointer (some ⟨g0_, 0, none⟩), .int .i64 a1] w fun e w' => e = .returned (.int .i64 r) ∧ Below w.heap.size w w' := by
 have hu113 := Tryz.underlying113
 have HR0_2 := Aside0.mk hr0_2
 have HC0_2 := Aside0.mk hc0_2
 clear hr0_2 hc0_2
 have BK0 := Aside0.mk hg0_
 clear hg0_
 have HB := Aside0.mk (Below.refl w.heap.size w)
 have H : (impl_Doc_parent.l0 k a1 l0_2 (l0_2.length : Int) 0) = some r := h
 clear h
 have H' := Aside0.mk H
 clear H
 obtain ⟨hcz3_0, hcz3_1, hcz3_2⟩ := Xc3 BK0
 obtain ⟨hfz3_0, hfz3_1, hfz3_2⟩ := Xf3 BK0
 go_enter Tryz.func130, Tryz.ntmps130
 go_wp2
 go_loopg [12] k (fun kq v12 w' => ∃ (x12_1 : Int), v12 = .int .i64 x12_1 ∧ Aside0 (impl_Doc_parent.l0 kq a1 l0_2 (l0_2.length : Int) x12_1 = some r) ∧ Aside0 (kq ≤ k) ∧ Aside0 (w'.heap[g0_]? = some (.cells #[.int .i64 a0_0, .int .i64 a0_1, (.slice A0_2 l0_2.length c0_2)] 35 (0, 0))) ∧ Aside0 (Below w.heap.size w w'))
 case atStart => exact ⟨(0), Xr, H', Xkr, BK0, ⟨Xi⟩⟩
 clear H'
 (try clear hcz3_0); (try clear hcz3_1); (try clear hcz3_2); (try clear hfz3_0); (try clear hfz3_1); (try clear hfz3_2)
 obtain ⟨x12_1, rfl, HA, HK1, BK0, HB⟩ := hrel
 cases gk with | zero => cases HA.out | succ k1 => ?_
 have H := HA.out
 clear HA
 simp only [impl_Doc_parent.l0] at H
 obtain ⟨c4b0, H⟩ | ⟨c4b0, H⟩ := Xit H
 ·obtain ⟨c5b0, H⟩ := Xid H
  obtain ⟨c6b0, H⟩ := Xid H
  obtain ⟨t508, A7, H⟩ := Xbi H
  try dsimp only at H
  have HC8 := Aside0.mk H
  clear H
  obtain ⟨ad506, A506_4, c506_4, e506, p506, q506, hx506_0, hx506_1, hx506_2, hx506_3, hx506_4, HC506_4, HR506_4⟩ := at_B113 HR0_2 x12_1 Xa Xa HB
  cases e506
  go_upto_if 19 with (first | ((with_reducible refine gate_dst (N := 6) rfl ?_); refine Xbox 6 #[.int .i64 0, .int .i64 0, .int .i64 0, .string (⟨#[]⟩ : ByteArray), .slice none 0 0] 113 ?_; intro gb507 hg w9 hbox hb; have BK507 := Aside0.mk (hbox); have GE507 := Xge hg Xi; replace HB := Aside0.mk (below_step Xi hb); have NB0_507 := Xnb hg BK0; have NB507_0 := Xns NB0_507; replace BK0 := Xbb BK0 hb; clear hb hbox hg; have hnb10 := NB507_0.out; have hnc10 := NB0_507.out; obtain ⟨hcz11_0, hcz11_1, hcz11_2, hcz11_3, hcz11_4⟩ := Xc5 BK507; obtain ⟨hfz11_0, hfz11_1, hfz11_2, hfz11_3, hfz11_4⟩ := Xf5 BK507) | ((with_reducible refine gate_store (t := 113) (p := 6) rfl ?_); refine store_event (t := 113) (p := 6) (v := ?vo_w12) (w1 := (((((w9.setCell ⟨gb507, 0, none⟩ (.int .i64 ((rd_T113 l0_2 x12_1).f0))).setCell ⟨gb507, 1, none⟩ (.int .i64 ((rd_T113 l0_2 x12_1).f1))).setCell ⟨gb507, 2, none⟩ (.int .i64 ((rd_T113 l0_2 x12_1).f2))).setCell ⟨gb507, 3, none⟩ (.string ((rd_T113 l0_2 x12_1).f3))).setCell ⟨gb507, 4, none⟩ (.slice A506_4 ((rd_T113 l0_2 x12_1).f4).length c506_4))) ?hg ?ho ?hn ?hr ?_; (case ho => rfl); (case hg => rfl); (case hn => rfl); (case hr => first | (go_simp; done) | (go_simp; rfl)); intro w12 hw; have n0_ : Aside0 (w12.heap[g0_]? = some (.cells #[.int .i64 a0_0, .int .i64 a0_1, .slice (some ad506) l0_2.length c0_2] 35 (0, 0))) := ⟨(by rw [hw]; exact (by (with_reducible repeat (first | refine blk_drewN ?_ _ | refine blk_drew ?_ | refine blk_alloc ?_ _)); refine blk_far ?_ NB0_507.out _; (with_reducible repeat (first | refine blk_drewN ?_ _ | refine blk_drew ?_ | refine blk_alloc ?_ _)); refine blk_far ?_ NB0_507.out _; (with_reducible repeat (first | refine blk_drewN ?_ _ | refine blk_drew ?_ | refine blk_alloc ?_ _)); refine blk_far ?_ NB0_507.out _; (with_reducible repeat (first | refine blk_drewN ?_ _ | refine blk_drew ?_ | refine blk_alloc ?_ _)); refine blk_far ?_ NB0_507.out _; (with_reducible repeat (first | refine blk_drewN ?_ _ | refine blk_drew ?_ | refine blk_alloc ?_ _)); refine blk_far ?_ NB0_507.out _; (with_reducible repeat (first | refine blk_drewN ?_ _ | refine blk_drew ?_ | refine blk_alloc ?_ _)); exact BK0.out))⟩; have n1_ : Aside0 (w12.heap[gb507]? = some (.cells #[.int .i64 ((rd_T113 l0_2 x12_1).f0), .int .i64 ((rd_T113 l0_2 x12_1).f1), .int .i64 ((rd_T113 l0_2 x12_1).f2), .string ((rd_T113 l0_2 x12_1).f3), .slice A506_4 ((rd_T113 l0_2 x12_1).f4).length c506_4] 113 (0, 0))) := ⟨(by rw [hw]; exact (by (with_reducible repeat (first | refine blk_drewN ?_ _ | refine blk_drew ?_ | refine blk_alloc ?_ _)); refine blk_put (cs := #[.int .i64 ((rd_T113 l0_2 x12_1).f0), .int .i64 ((rd_T113 l0_2 x12_1).f1), .int .i64 ((rd_T113 l0_2 x12_1).f2), .string ((rd_T113 l0_2 x12_1).f3), .slice none 0 0]) ?_ 4 _ rfl; (with_reducible repeat (first | refine blk_drewN ?_ _ | refine blk_drew ?_ | refine blk_alloc ?_ _)); refine blk_put (cs := #[.int .i64 ((rd_T113 l0_2 x12_1).f0), .int .i64 ((rd_T113 l0_2 x12_1).f1), .int .i64 ((rd_T113 l0_2 x12_1).f2), .string (⟨#[]⟩ : ByteArray), .slice none 0 0]) ?_ 3 _ rfl; (with_reducible repeat (first | refine blk_drewN ?_ _ | refine blk_drew ?_ | refine blk_alloc ?_ _)); refine blk_put (cs := #[.int .i64 ((rd_T113 l0_2 x12_1).f0), .int .i64 ((rd_T113 l0_2 x12_1).f1), .int .i64 0, .string (⟨#[]⟩ : ByteArray), .slice none 0 0]) ?_ 2 _ rfl; (with_reducible repeat (first | refine blk_drewN ?_ _ | refine blk_drew ?_ | refine blk_alloc ?_ _)); refine blk_put (cs := #[.int .i64 ((rd_T113 l0_2 x12_1).f0), .int .i64 0, .int .i64 0, .string (⟨#[]⟩ : ByteArray), .slice none 0 0]) ?_ 1 _ rfl; (with_reducible repeat (first | refine blk_drewN ?_ _ | refine blk_drew ?_ | refine blk_alloc ?_ _)); refine blk_put (cs := #[.int .i64 0, .int .i64 0, .int .i64 0, .string (⟨#[]⟩ : ByteArray), .slice none 0 0]) ?_ 0 _ rfl; (with_reducible repeat (first | refine blk_drewN ?_ _ | refine blk_drew ?_ | refine blk_alloc ?_ _)); exact BK507.out))⟩; have n2_ : Aside0 (Below w.heap.size w w12) := ⟨(by rw [hw]; exact Xi)⟩; clear hw; clear BK0; clear BK507; clear HB; have BK0 := n0_; have BK507 := n1_; have HB := n2_; clear n0_ n1_ n2_; obtain ⟨hcz13_0, hcz13_1, hcz13_2, hcz13_3, hcz13_4⟩ := Xc5 BK507; obtain ⟨hfz13_0, hfz13_1, hfz13_2, hfz13_3, hfz13_4⟩ := Xf5 BK507) | ((with_reducible refine gate_callee (f := 116) rfl ?_); refine Xgo 19 Tryz.func116 #[.slice A506_4 ((rd_T113 l0_2 x12_1).f4).length c506_4, .int .i64 a1] ?_; (with_reducible refine (slices_Contains_int_int.calls k1 _ _ ((rd_T113 l0_2 x12_1).f4) a1 t508 _ ?side1 ?side2 A7.out).mono ?_); (case side1 => exact Xc HR506_4); (case side2 => exact HC506_4.out); rintro e w' ⟨rfl, ⟨nd, rfl⟩⟩; refine ⟨_, rfl, ?_⟩))
  have H := HC8.out
  clear HC8
  by_cases c14 : t508 = true
  ·subst c14
   try rw [if_pos rfl] at H
   obtain rfl := Option.some.inj H
   have hnb15 := NB507_0.out
   have hnc15 := NB0_507.out
   obtain ⟨hcz16_0, hcz16_1, hcz16_2, hcz16_3, hcz16_4⟩ := Xc5 BK507
   obtain ⟨hfz16_0, hfz16_1, hfz16_2, hfz16_3, hfz16_4⟩ := Xf5 BK507
   go_wp2
   go_ret
   exact ⟨Xe, Xi⟩
  replace c14 := Bool.eq_false_iff.mpr c14
  subst c14
  try rw [if_neg (show ¬ (false = true) by decide)] at H
  have H' := Aside0.mk H
  clear H
  go_wp2
  go_roundg k1
  case measure => have := HK1.out; omega
  case rel => exact ⟨(wrap64 (x12_1 + 1)), Xr, H', Xk1, BK0, ⟨Xi⟩⟩
 obtain rfl := Option.some.inj H
 go_wp2
 go_ret
 exact ⟨Xe, Xi⟩
def impl_Doc_path.l0 : Nat → Int → List Int → Int → Int → List (S113) → Option (List Int)
 | 0, _, _, _, _, _ => none
 | k + 1, x1, x5, x1000, x1001, x1002 => if x1 = 0 then ((slices_Reverse_int_int.f k x5).bind fun t509 => (some t509)) else (if x5.length < 17592186044416 then ((impl_Doc_parent.f k x1000 x1001 x1002 x1).bind fun t513 => (impl_Doc_path.l0 k t513 (x5 ++ [x1]) x1000 x1001 x1002)) else (none))
def impl_Doc_path.f (k : Nat) (a0_0 : Int) (a0_1 : Int) (l0_2 : List (S113)) (a1 : Int) : Option (List Int) := impl_Doc_path.l0 k a1 ([] : List Int) a0_0 a0_1 l0_2
theorem impl_Doc_path.calls (k : Nat) (g0_ : Nat) (a0_0 : Int) (a0_1 : Int) (A0_2 : Option Addr) (c0_2 : Nat) (l0_2 : List (S113)) (a1 : Int) (r : List Int) (w : World) (hg0_ : w.heap[g0_]? = some (.cells #[.int .i64 a0_0, .int .i64 a0_1, .slice A0_2 l0_2.length c0_2] 35 (0, 0))) (hr0_2 : Kd.C k113 w A0_2 l0_2.length l0_2) (hc0_2 : l0_2.length ≤ c0_2) (h : impl_Doc_path.f k a0_0 a0_1 l0_2 a1 = some r) :
  Calls Tryz.prog 72 #[.pointer (some ⟨g0_, 0, none⟩), .int .i64 a1] w fun e w' => ∃ v0_ : Value, e = .returned (v0_) ∧ Kd.R (Kd.int .i64) 3 w' w.heap.size (fun _ => True) v0_ r ∧ Below w.heap.size w w' := by
 have HR0_2 := Aside0.mk hr0_2
 have HC0_2 := Aside0.mk hc0_2
 clear hr0_2 hc0_2
 have BK0 := Aside0.mk hg0_
 clear hg0_
 have HB := Aside0.mk (Below.refl w.heap.size w)
 have H : (impl_Doc_path.l0 k a1 ([] : List Int) a0_0 a0_1 l0_2) = some r := h
 clear h
 have H' := Aside0.mk H
 clear H
 go_enter Tryz.func72, Tryz.ntmps72
 go_wp2
 go_loopg [1, 5] k (fun kq v1 v5 w' => ∃ (x1_1 : Int) (x5_1 : List Int), v1 = .int .i64 x1_1 ∧ Aside0 (impl_Doc_path.l0 kq x1_1 x5_1 a0_0 a0_1 l0_2 = some r) ∧ Aside0 (kq ≤ k) ∧ Aside0 (Kd.R (Kd.int .i64) 3 w' w.heap.size (fun _ => True) v5 x5_1) ∧ Aside0 (w'.heap[g0_]? = some (.cells #[.int .i64 a0_0, .int .i64 a0_1, (.slice A0_2 l0_2.length c0_2)] 35 (0, 0))) ∧ Aside0 (Below w.heap.size w w'))
 case atStart => exact ⟨(a1), (([] : List Int)), Xr, H', Xkr, ⟨by first | exact Kd.R_nil _ _ _ _ _ | exact Kd.N_nil _ _ _ _ _ | exact Kd.V_nil _ _ _ _ _ | exact Kd.Q_nil _ _ _ _ _ | exact Kd.S_nil _ _ _ _ _⟩, (Xp BK0), ⟨Xi⟩⟩
 clear H'
 obtain ⟨x1_1, x5_1, rfl, HA, HK1, HO_5, BK0, HB⟩ := hrel
 cases gk with | zero => cases HA.out | succ k1 => ?_
 have H := HA.out
 clear HA
 simp only [impl_Doc_path.l0] at H
 obtain ⟨c3, H⟩ | ⟨c3, H⟩ := Xiu H
 ·have c3b0 : (x1_1 == 0) = true := beq_iff_eq.mpr c3
  have c3b1 : (x1_1 != 0) = false := bne_eq_false_iff_eq.mpr c3
  clear c3
  obtain ⟨t509, A4, H⟩ := Xbi H
  try dsimp only at H
  obtain rfl := Option.some.inj H
  obtain ⟨Ao5, co5, eo5⟩ := Kd.R_slice HO_5.out
  subst eo5
  go_wp2_with (first | ((with_reducible refine gate_callee (f := 131) rfl ?_); refine Xgo 16 Tryz.func131 #[.slice Ao5 x5_1.length co5] ?_; (with_reducible refine (slices_Reverse_int_int.calls k1 (fun k_ => some k_ = (.slice Ao5 x5_1.length co5 : Value).ownBlock) (.slice Ao5 x5_1.length co5) x5_1 t509 w _ ?side1 ?side2 A4.out).mono ?_); (case side1 => exact Xi); (case side2 => exact Kd.R_tight rfl HO_5.out); rintro e w6 ⟨rfl, hy0, hb, hkp⟩; refine ⟨_, rfl, ?_⟩; replace BK0 := Aside0.mk (blk_kept (Xq' BK0) hkp (fun hs_ => (fun e_ => (Kd.R_ne HO_5.out BK0.out (by decide)) e_) hs_)); replace HO_5 := Aside0.mk (Kd.R_reok rfl hy0 (fun k_ e_ => HO_5.out.1 k_ e_)); replace HB := Aside0.mk (hb); (try clear hb); (try clear hkp); (try clear hy0)))
  go_ret
  exact ⟨_, Xe, Xq HO_5, Xi⟩
 have c3b0 : (x1_1 == 0) = false := beq_eq_false_iff_ne.mpr c3
 have c3b1 : (x1_1 != 0) = true := bne_iff_ne.mpr c3
 obtain ⟨c7, H⟩ | ⟨c7, H⟩ := Xiu H
 ·have LMc7 := Aside0.mk c7
  clear c7
  obtain ⟨y510, hy510⟩ : ∃ y_ : List Int, y_ = (x5_1 ++ [x1_1]) := ⟨_, rfl⟩
  replace H : ((impl_Doc_parent.f k1 a0_0 a0_1 l0_2 x1_1).bind fun t513 => (impl_Doc_path.l0 k1 t513 y510 a0_0 a0_1 l0_2)) = some r := by first | (rw [hy510]; with_reducible exact H) | (have H2_ := (Option.bind_some _ _).symm.trans H; rw [hy510]; with_reducible exact H2_) | (have H2_ := (Option.bind_some _ _).symm.trans H; with_reducible exact H2_) | with_reducible exact H | (rw [hy510]; exact H) | exact H
  have Ny510 := Aside0.mk hy510
  clear hy510
  obtain ⟨t513, A8, H⟩ := Xbi H
  try dsimp only at H
  have H' := Aside0.mk H
  clear H
  go_wp2_with (first | ((with_reducible refine gate_builtin (b := .append) (xs := #[.tmp 11, .tmp 13]) rfl ?_); at_builtin; refine Kd.R_append (Kd.int .i64) (w0 := w) w.heap.size rfl (.tmp 11) (.tmp 13) 30 3 (.int .i64 0) 8 rfl Tryz.underlying30 info3 rfl (by decide) (by omega) u5 x5_1 x1_1 [.int .i64 x1_1] (fun _ => True) (fun _ => False) rfl rfl ?aP (fun _ hk => hk.elim) ?aF ?aO ?aB ?aS ?aL ?_; (case aP => exact rfl); (case aB => exact Xi); (case aF => exact (fun _ _ => trivial)); (case aO => exact (Xq HO_5)); (case aS => exact (below_size Xi)); (case aL => have := LMc7.out; omega); intro v511 w9 ho hb hg hat; rw [← Ny510.out] at ho; replace BK0 := Aside0.mk (blk_grown (g := g0_) (o := .cells #[.int .i64 a0_0, .int .i64 a0_1, .slice A0_2 l0_2.length c0_2] 35 (0, 0)) (Xq' BK0) hg (Kd.R_ne HO_5.out BK0.out (by decide))); replace HB := Aside0.mk (hb); have HO512 := Aside0.mk (ho); clear HO_5; clear ho hb hg hat) | ((with_reducible refine gate_callee (f := 130) rfl ?_); refine Xgo 10 Tryz.func130 #[.pointer (some ⟨g0_, 0, none⟩), .int .i64 x1_1] ?_; (with_reducible refine (impl_Doc_parent.calls k1 g0_ a0_0 a0_1 A0_2 c0_2 l0_2 x1_1 t513 _ ?side1 ?side2 ?side3 A8.out).mono ?_); (case side1 => exact (Xq' BK0)); (case side2 => exact Xc HR0_2); (case side3 => exact HC0_2.out); rintro e w10 ⟨rfl, hb⟩; refine ⟨_, rfl, ?_⟩; replace HO512 := Aside0.mk (Kd.R_below (Xq HO512) hb); replace BK0 := Xbb BK0 hb; replace HB := Aside0.mk (below_step Xi hb); clear hb))
  go_roundg k1
  case measure => have := HK1.out; omega
  case rel => exact ⟨(t513), (y510), Xr, H', Xk1, (Xp' HO512), (Xp BK0), ⟨Xi⟩⟩
 exact absurd H (by simp)
def impl_Doc_isIn.f (k : Nat) (a0_0 : Int) (a0_1 : Int) (l0_2 : List (S113)) (a1 : Int) (a2 : Int) : Option (Bool) := (impl_Doc_path.f k a0_0 a0_1 l0_2 a1).bind fun t522 => ((slices_Contains_int_int.f k t522 a2).bind fun t525 => (some t525))
theorem impl_Doc_isIn.calls (k : Nat) (g0_ : Nat) (a0_0 : Int) (a0_1 : Int) (A0_2 : Option Addr) (c0_2 : Nat) (l0_2 : List (S113)) (a1 : Int) (a2 : Int) (r : Bool) (w : World) (hg0_ : w.heap[g0_]? = some (.cells #[.int .i64 a0_0, .int .i64 a0_1, .slice A0_2 l0_2.length c0_2] 35 (0, 0))) (hr0_2 : Kd.C k113 w A0_2 l0_2.length l0_2) (hc0_2 : l0_2.length ≤ c0_2) (h : impl_Doc_isIn.f k a0_0 a0_1 l0_2 a1 a2 = some r) :
  Calls Tryz.prog 165 #[.pointer (some ⟨g0_, 0, none⟩), .int .i64 a1, .int .i64 a2] w fun e w' => e = .returned (.bool r) ∧ Below w.heap.size w w' := by
 have HR0_2 := Aside0.mk hr0_2
 have HC0_2 := Aside0.mk hc0_2
 clear hr0_2 hc0_2
 have BK0 := Aside0.mk hg0_
 clear hg0_
 have HB := Aside0.mk (Below.refl w.heap.size w)
 have H : ((impl_Doc_path.f k a0_0 a0_1 l0_2 a1).bind fun t522 => ((slices_Contains_int_int.f k t522 a2).bind fun t525 => (some t525))) = some r := h
 clear h
 obtain ⟨t522, A4, H⟩ := Xbi H
 try dsimp only at H
 obtain ⟨t525, A5, H⟩ := Xbi H
 try dsimp only at H
 obtain rfl := Option.some.inj H
 go_enter Tryz.func165, Tryz.ntmps165
 go_wp2_with (first | ((with_reducible refine gate_callee (f := 72) rfl ?_); refine Xgo 9 Tryz.func72 #[.pointer (some ⟨g0_, 0, none⟩), .int .i64 a1] ?_; (with_reducible refine (impl_Doc_path.calls k g0_ a0_0 a0_1 A0_2 c0_2 l0_2 a1 t522 _ ?side1 ?side2 ?side3 A4.out).mono ?_); (case side1 => exact BK0.out); (case side2 => repeat (first | exact HR0_2.out | (with_reducible first | refine Kd.C_alloc ?_ _ | refine Kd.C_drewN ?_ _ | refine Kd.C_drew ?_))); (case side3 => exact HC0_2.out); rintro e w6 ⟨v523, rfl, ho0, hb⟩; refine ⟨_, rfl, ?_⟩; have HO524 := Aside0.mk (Kd.R_lower ho0 (below_size Xi)); replace BK0 := Xbb BK0 hb; replace HB := Aside0.mk (below_step Xi hb); clear hb; (try clear ho0); obtain ⟨Ao7, co7, eo7⟩ := Kd.R_slice HO524.out; subst eo7) | ((with_reducible refine gate_callee (f := 116) rfl ?_); refine Xgo 11 Tryz.func116 #[.slice Ao7 t522.length co7, .int .i64 a2] ?_; (with_reducible refine (slices_Contains_int_int.calls k _ _ t522 a2 t525 _ ?side1 ?side2 A5.out).mono ?_); (case side1 => repeat (first | exact (Kd.R_reads' HO524.out).2.2 | (with_reducible first | refine Kd.C_alloc ?_ _ | refine Kd.C_drewN ?_ _ | refine Kd.C_drew ?_))); (case side2 => exact (Kd.R_reads' HO524.out).2.1); rintro e w' ⟨rfl, ⟨nd, rfl⟩⟩; refine ⟨_, rfl, ?_⟩))
 go_ret
 exact ⟨Xe, Xi⟩
def impl_intent.f (a0 : Int) : Option (Int) := if a0 = 0 then (some 0) else (if a0 = 1 then (some 1) else (if a0 = 3 then (some 1) else (some 2)))
theorem impl_intent.calls (a0 : Int) (r : Int) (w : World) (h : impl_intent.f a0 = some r) :
  Calls Tryz.prog 74 #[.int .i64 a0] w fun e w' => e = .returned (.int .i64 r) ∧ Drawn0 w w' := by
 have H : (if a0 = 0 then (some 0) else (if a0 = 1 then (some 1) else (if a0 = 3 then (some 1) else (some 2)))) = some r := h
 clear h
 obtain ⟨c2, H⟩ | ⟨c2, H⟩ := Xiu H
 ·have c2b0 : (a0 == 0) = true := beq_iff_eq.mpr c2
  have c2b1 : (a0 != 0) = false := bne_eq_false_iff_eq.mpr c2
  clear c2
  obtain rfl := Option.some.inj H
  go_enter Tryz.func74, Tryz.ntmps74
  go_wp2
  go_ret
  exact ⟨Xr, Xdr⟩
 have c2b0 : (a0 == 0) = false := beq_eq_false_iff_ne.mpr c2
 have c2b1 : (a0 != 0) = true := bne_iff_ne.mpr c2
 obtain ⟨c3, H⟩ | ⟨c3, H⟩ := Xiu H
 ·have c3b0 : (a0 == 1) = true := beq_iff_eq.mpr c3
  have c3b1 : (a0 != 1) = false := bne_eq_false_iff_eq.mpr c3
  clear c3
  obtain rfl := Option.some.inj H
  go_enter Tryz.func74, Tryz.ntmps74
  go_wp2
  go_ret
  exact ⟨Xr, Xdr⟩
 have c3b0 : (a0 == 1) = false := beq_eq_false_iff_ne.mpr c3
 have c3b1 : (a0 != 1) = true := bne_iff_ne.mpr c3
 obtain ⟨c4, H⟩ | ⟨c4, H⟩ := Xiu H
 ·have c4b0 : (a0 == 3) = true := beq_iff_eq.mpr c4
  have c4b1 : (a0 != 3) = false := bne_eq_false_iff_eq.mpr c4
  clear c4
  obtain rfl := Option.some.inj H
  go_enter Tryz.func74, Tryz.ntmps74
  go_wp2
  go_ret
  exact ⟨Xr, Xdr⟩
 have c4b0 : (a0 == 3) = false := beq_eq_false_iff_ne.mpr c4
 have c4b1 : (a0 != 3) = true := bne_iff_ne.mpr c4
 obtain rfl := Option.some.inj H
 go_enter Tryz.func74, Tryz.ntmps74
 go_wp2
 go_ret
 exact ⟨Xr, Xdr⟩
def impl_Doc_need.f (k : Nat) (a0_0 : Int) (a0_1 : Int) (l0_2 : List (S113)) (a1_0 : Int) (a1_1 : Int) (a1_2 : Int) (a2 : Int) : Option (Int) := if a1_1 = a2 then (some a1_2) else ((impl_Doc_isIn.f k a0_0 a0_1 l0_2 a1_1 a2).bind fun t529 => (if t529 = true then ((impl_intent.f a1_2).bind fun t530 => (some t530)) else (some 0)))
theorem impl_Doc_need.calls (k : Nat) (g0_ : Nat) (a0_0 : Int) (a0_1 : Int) (A0_2 : Option Addr) (c0_2 : Nat) (l0_2 : List (S113)) (a1_0 : Int) (a1_1 : Int) (a1_2 : Int) (a2 : Int) (r : Int) (w : World) (hg0_ : w.heap[g0_]? = some (.cells #[.int .i64 a0_0, .int .i64 a0_1, .slice A0_2 l0_2.length c0_2] 35 (0, 0))) (hr0_2 : Kd.C k113 w A0_2 l0_2.length l0_2) (hc0_2 : l0_2.length ≤ c0_2) (h : impl_Doc_need.f k a0_0 a0_1 l0_2 a1_0 a1_1 a1_2 a2 = some r) :
  Calls Tryz.prog 132 #[.pointer (some ⟨g0_, 0, none⟩), .agg #[.int .i64 a1_0, .int .i64 a1_1, .int .i64 a1_2], .int .i64 a2] w fun e w' => e = .returned (.int .i64 r) ∧ Below w.heap.size w w' := by
 have hu39 := Tryz.underlying39
 have HR0_2 := Aside0.mk hr0_2
 have HC0_2 := Aside0.mk hc0_2
 clear hr0_2 hc0_2
 have BK0 := Aside0.mk hg0_
 clear hg0_
 have HB := Aside0.mk (Below.refl w.heap.size w)
 have H : (if a1_1 = a2 then (some a1_2) else ((impl_Doc_isIn.f k a0_0 a0_1 l0_2 a1_1 a2).bind fun t529 => (if t529 = true then ((impl_intent.f a1_2).bind fun t530 => (some t530)) else (some 0)))) = some r := h
 clear h
 have HC4 := Aside0.mk H
 clear H
 go_enter Tryz.func132, Tryz.ntmps132
 go_upto_if 7 with (first | ((with_reducible refine gate_dst (N := 4) rfl ?_); refine Xbox 4 #[.int .i64 a1_0, .int .i64 a1_1, .int .i64 a1_2] 39 ?_; intro gb528 hg w5 hbox hb; have BK528 := Aside0.mk (hbox); have GE528 := Xge hg Xi; replace HB := Aside0.mk (below_step Xi hb); have NB0_528 := Xnb hg BK0; have NB528_0 := Xns NB0_528; replace BK0 := Xbb BK0 hb; clear hb hbox hg; have hnb6 := NB528_0.out; have hnc6 := NB0_528.out; obtain ⟨hcz7_0, hcz7_1, hcz7_2⟩ := Xc3 BK528))
 have H := HC4.out
 clear HC4
 obtain ⟨c8, H⟩ | ⟨c8, H⟩ := Xiu H
 ·have c8b0 : (a1_1 == a2) = true := beq_iff_eq.mpr c8
  have c8b1 : (a1_1 != a2) = false := bne_eq_false_iff_eq.mpr c8
  clear c8
  (first | rw [c8b0] | (simp only [i64_w, i32_w]; rw [c8b0]) | skip)
  obtain rfl := Option.some.inj H
  have hnb9 := NB528_0.out
  have hnc9 := NB0_528.out
  obtain ⟨hcz10_0, hcz10_1, hcz10_2⟩ := Xc3 BK528
  go_wp2
  go_ret
  exact ⟨Xe, Xi⟩
 have c8b0 : (a1_1 == a2) = false := beq_eq_false_iff_ne.mpr c8
 have c8b1 : (a1_1 != a2) = true := bne_iff_ne.mpr c8
 (first | rw [c8b0] | (simp only [i64_w, i32_w]; rw [c8b0]) | skip)
 obtain ⟨t529, A11, H⟩ := Xbi H
 try dsimp only at H
 have HC12 := Aside0.mk H
 clear H
 have hnb13 := NB528_0.out
 have hnc13 := NB0_528.out
 obtain ⟨hcz14_0, hcz14_1, hcz14_2⟩ := Xc3 BK528
 go_upto_if 14 with (first | ((with_reducible refine gate_callee (f := 165) rfl ?_); refine Xgo 19 Tryz.func165 #[.pointer (some ⟨g0_, 0, none⟩), .int .i64 a1_1, .int .i64 a2] ?_; (with_reducible refine (impl_Doc_isIn.calls k g0_ a0_0 a0_1 A0_2 c0_2 l0_2 a1_1 a2 t529 _ ?side1 ?side2 ?side3 A11.out).mono ?_); (case side1 => exact BK0.out); (case side2 => exact Xc HR0_2); (case side3 => exact HC0_2.out); rintro e w15 ⟨rfl, hb⟩; refine ⟨_, rfl, ?_⟩; replace BK0 := Xbb BK0 hb; replace BK528 := Xbb BK528 hb; replace HB := Aside0.mk (below_step Xi hb); clear hb))
 have H := HC12.out
 clear HC12
 by_cases c16 : t529 = true
 ·subst c16
  try rw [if_pos rfl] at H
  obtain ⟨t530, A17, H⟩ := Xbi H
  try dsimp only at H
  obtain rfl := Option.some.inj H
  have hnb18 := NB528_0.out
  have hnc18 := NB0_528.out
  obtain ⟨hcz19_0, hcz19_1, hcz19_2⟩ := Xc3 BK528
  go_wp2_with (first | ((with_reducible refine gate_callee (f := 74) rfl ?_); refine Xgo 22 Tryz.func74 #[.int .i64 a1_2] ?_; (with_reducible refine (impl_intent.calls a1_2 t530 _ A17.out).mono ?_); rintro e w' ⟨rfl, ⟨nd, rfl⟩⟩; refine ⟨_, rfl, ?_⟩))
  go_ret
  exact ⟨Xe, Xi⟩
 replace c16 := Bool.eq_false_iff.mpr c16
 subst c16
 try rw [if_neg (show ¬ (false = true) by decide)] at H
 obtain rfl := Option.some.inj H
 go_wp2
 go_ret
 exact ⟨Xe, Xi⟩
def impl_joined.f (a0 : Int) (a1 : Int) : Option (Int) := if (mn a0 a1) = 2 then (if (mx a0 a1) = 3 then (some 4) else (some (mx a0 a1))) else (some (mx a0 a1))
theorem impl_joined.calls (a0 : Int) (a1 : Int) (r : Int) (w : World) (h : impl_joined.f a0 a1 = some r) :
  Calls Tryz.prog 78 #[.int .i64 a0, .int .i64 a1] w fun e w' => e = .returned (.int .i64 r) ∧ Below w.heap.size w w' := by
 have HB := Aside0.mk (Below.refl w.heap.size w)
 have H : (if (mn a0 a1) = 2 then (if (mx a0 a1) = 3 then (some 4) else (some (mx a0 a1))) else (some (mx a0 a1))) = some r := h
 clear h
 obtain ⟨ji3, hji3⟩ : ∃ j_ : Int, (mn a0 a1) = j_ := ⟨_, rfl⟩
 replace H : (if (ji3) = 2 then (if (mx a0 a1) = 3 then (some 4) else (some (mx a0 a1))) else (some (mx a0 a1))) = some r := by first | (rw [hji3] at H; exact H) | (simp only [hji3] at H ⊢; exact H)
 have hji3_ : (if a1 < a0 then a1 else a0) = ji3 := hji3
 obtain ⟨c4, H⟩ | ⟨c4, H⟩ := Xiu H
 ·have c4b0 : ((ji3) == 2) = true := beq_iff_eq.mpr c4
  have c4b1 : ((ji3) != 2) = false := bne_eq_false_iff_eq.mpr c4
  clear c4
  obtain ⟨ji5, hji5⟩ : ∃ j_ : Int, (mx a0 a1) = j_ := ⟨_, rfl⟩
  replace H : (if (ji5) = 3 then (some 4) else (some ji5)) = some r := by first | (rw [hji5] at H; exact H) | (simp only [hji5] at H ⊢; exact H)
  have hji5_ : (if a0 < a1 then a1 else a0) = ji5 := hji5
  obtain ⟨c6, H⟩ | ⟨c6, H⟩ := Xiu H
  ·have c6b0 : ((ji5) == 3) = true := beq_iff_eq.mpr c6
   have c6b1 : ((ji5) != 3) = false := bne_eq_false_iff_eq.mpr c6
   clear c6
   obtain rfl := Option.some.inj H
   go_enter Tryz.func78, Tryz.ntmps78
   go_wp2
   go_ret
   exact ⟨by first | rfl | (simp [errW_none, errW_some] <;> rfl) | (simp only [← hji3, ← hji5]; first | rfl | (simp [errW_none, errW_some] <;> rfl)) | (simp [*, errW_none, errW_some] <;> rfl), Xi⟩
  have c6b0 : ((ji5) == 3) = false := beq_eq_false_iff_ne.mpr c6
  have c6b1 : ((ji5) != 3) = true := bne_iff_ne.mpr c6
  obtain rfl := Option.some.inj H
  go_enter Tryz.func78, Tryz.ntmps78
  go_wp2
  go_ret
  exact ⟨by first | rfl | (simp [errW_none, errW_some] <;> rfl) | (simp only [← hji3, ← hji5]; first | rfl | (simp [errW_none, errW_some] <;> rfl)) | (simp [*, errW_none, errW_some] <;> rfl), Xi⟩
 have c4b0 : ((ji3) == 2) = false := beq_eq_false_iff_ne.mpr c4
 have c4b1 : ((ji3) != 2) = true := bne_iff_ne.mpr c4
 obtain ⟨ji7, hji7⟩ : ∃ j_ : Int, (mx a0 a1) = j_ := ⟨_, rfl⟩
 replace H : (some ji7) = some r := by first | (rw [hji7] at H; exact H) | (simp only [hji7] at H ⊢; exact H)
 have hji7_ : (if a0 < a1 then a1 else a0) = ji7 := hji7
 obtain rfl := Option.some.inj H
 go_enter Tryz.func78, Tryz.ntmps78
 go_wp2
 go_ret
 exact ⟨by first | rfl | (simp [errW_none, errW_some] <;> rfl) | (simp only [← hji3, ← hji7]; first | rfl | (simp [errW_none, errW_some] <;> rfl)) | (simp [*, errW_none, errW_some] <;> rfl), Xi⟩
def impl_Doc_mode.l0 : Nat → Int → Int → Int → List (S39) → Int → Int → Int → Int → List (S113) → Option (Int)
 | 0, _, _, _, _, _, _, _, _, _ => none
 | k + 1, x2, x3, x9, x12, x13, x14, x1000, x1001, x1002 => if x14 < x13 then (if 0 ≤ x14 then (if x14 < (x12.length : Int) then (if ((rd_T39 x12 x14).f0) = x2 then ((impl_Doc_need.f k x1000 x1001 x1002 ((rd_T39 x12 x14).f0) ((rd_T39 x12 x14).f1) ((rd_T39 x12 x14).f2) x3).bind fun t536 => ((impl_joined.f x9 t536).bind fun t537 => (impl_Doc_mode.l0 k x2 x3 t537 x12 x13 (wrap64 (x14 + 1)) x1000 x1001 x1002))) else (impl_Doc_mode.l0 k x2 x3 x9 x12 x13 (wrap64 (x14 + 1)) x1000 x1001 x1002)) else (none)) else (none)) else (some x9)
def impl_Doc_mode.f (k : Nat) (a0_0 : Int) (a0_1 : Int) (l0_2 : List (S113)) (l1 : List (S39)) (a2 : Int) (a3 : Int) : Option (Int) := impl_Doc_mode.l0 k a2 a3 0 l1 (l1.length : Int) 0 a0_0 a0_1 l0_2
theorem impl_Doc_mode.calls (k : Nat) (g0_ : Nat) (a0_0 : Int) (a0_1 : Int) (A0_2 : Option Addr) (c0_2 : Nat) (l0_2 : List (S113)) (A1 : Option Addr) (c1 : Nat) (l1 : List (S39)) (a2 : Int) (a3 : Int) (r : Int) (w : World) (hg0_ : w.heap[g0_]? = some (.cells #[.int .i64 a0_0, .int .i64 a0_1, .slice A0_2 l0_2.length c0_2] 35 (0, 0))) (hr0_2 : Kd.C k113 w A0_2 l0_2.length l0_2) (hc0_2 : l0_2.length ≤ c0_2) (hr1 : Kd.C k39 w A1 l1.length l1) (hc1 : l1.length ≤ c1) (h : impl_Doc_mode.f k a0_0 a0_1 l0_2 l1 a2 a3 = some r) :
  Calls Tryz.prog 76 #[.pointer (some ⟨g0_, 0, none⟩), .slice A1 l1.length c1, .int .i64 a2, .int .i64 a3] w fun e w' => e = .returned (.int .i64 r) ∧ Below w.heap.size w w' := by
 have hu39 := Tryz.underlying39
 have HR0_2 := Aside0.mk hr0_2
 have HC0_2 := Aside0.mk hc0_2
 clear hr0_2 hc0_2
 have HR1 := Aside0.mk hr1
 have HC1 := Aside0.mk hc1
 clear hr1 hc1
 have BK0 := Aside0.mk hg0_
 clear hg0_
 have HB := Aside0.mk (Below.refl w.heap.size w)
 have H : (impl_Doc_mode.l0 k a2 a3 0 l1 (l1.length : Int) 0 a0_0 a0_1 l0_2) = some r := h
 clear h
 have H' := Aside0.mk H
 clear H
 go_enter Tryz.func76, Tryz.ntmps76
 go_wp2
 go_loopg [9, 14] k (fun kq v9 v14 w' => ∃ (x9_1 : Int) (x14_1 : Int), v9 = .int .i64 x9_1 ∧ v14 = .int .i64 x14_1 ∧ Aside0 (impl_Doc_mode.l0 kq a2 a3 x9_1 l1 (l1.length : Int) x14_1 a0_0 a0_1 l0_2 = some r) ∧ Aside0 (kq ≤ k) ∧ Aside0 (w'.heap[g0_]? = some (.cells #[.int .i64 a0_0, .int .i64 a0_1, (.slice A0_2 l0_2.length c0_2)] 35 (0, 0))) ∧ Aside0 (Below w.heap.size w w'))
 case atStart => exact ⟨(0), (0), Xr, Xr, H', Xkr, BK0, ⟨Xi⟩⟩
 clear H'
 try clear c1
 obtain ⟨x9_1, x14_1, rfl, rfl, HA, HK1, BK0, HB⟩ := hrel
 cases gk with | zero => cases HA.out | succ k1 => ?_
 have H := HA.out
 clear HA
 simp only [impl_Doc_mode.l0] at H
 obtain ⟨c5b0, H⟩ | ⟨c5b0, H⟩ := Xit H
 ·obtain ⟨c6b0, H⟩ := Xid H
  obtain ⟨c7b0, H⟩ := Xid H
  have HC8 := Aside0.mk H
  clear H
  obtain ⟨ad534, e534, p534, q534, hx534_0, hx534_1, hx534_2⟩ := at_B39 HR1 x14_1 Xa Xa HB
  cases e534
  go_upto_if 21 with (first | ((with_reducible refine gate_dst (N := 11) rfl ?_); refine Xbox 11 #[.int .i64 0, .int .i64 0, .int .i64 0] 39 ?_; intro gb535 hg w9 hbox hb; have BK535 := Aside0.mk (hbox); have GE535 := Xge hg Xi; replace HB := Aside0.mk (below_step Xi hb); have NB0_535 := Xnb hg BK0; have NB535_0 := Xns NB0_535; replace BK0 := Xbb BK0 hb; clear hb hbox hg; have hnb10 := NB535_0.out; have hnc10 := NB0_535.out; obtain ⟨hcz11_0, hcz11_1, hcz11_2⟩ := Xc3 BK535; obtain ⟨hfz11_0, hfz11_1, hfz11_2⟩ := Xf3 BK535) | ((with_reducible refine gate_store (t := 39) (p := 11) rfl ?_); refine store_event (t := 39) (p := 11) (v := ?vo_w12) (w1 := (((w9.setCell ⟨gb535, 0, none⟩ (.int .i64 ((rd_T39 l1 x14_1).f0))).setCell ⟨gb535, 1, none⟩ (.int .i64 ((rd_T39 l1 x14_1).f1))).setCell ⟨gb535, 2, none⟩ (.int .i64 ((rd_T39 l1 x14_1).f2)))) ?hg ?ho ?hn ?hr ?_; (case ho => rfl); (case hg => rfl); (case hn => rfl); (case hr => first | (go_simp; done) | (go_simp; rfl)); intro w12 hw; have n0_ : Aside0 (w12.heap[g0_]? = some (.cells #[.int .i64 a0_0, .int .i64 a0_1, .slice A0_2 l0_2.length c0_2] 35 (0, 0))) := ⟨(by rw [hw]; exact (by (with_reducible repeat (first | refine blk_drewN ?_ _ | refine blk_drew ?_ | refine blk_alloc ?_ _)); refine blk_far ?_ NB0_535.out _; (with_reducible repeat (first | refine blk_drewN ?_ _ | refine blk_drew ?_ | refine blk_alloc ?_ _)); refine blk_far ?_ NB0_535.out _; (with_reducible repeat (first | refine blk_drewN ?_ _ | refine blk_drew ?_ | refine blk_alloc ?_ _)); refine blk_far ?_ NB0_535.out _; (with_reducible repeat (first | refine blk_drewN ?_ _ | refine blk_drew ?_ | refine blk_alloc ?_ _)); exact BK0.out))⟩; have n1_ : Aside0 (w12.heap[gb535]? = some (.cells #[.int .i64 ((rd_T39 l1 x14_1).f0), .int .i64 ((rd_T39 l1 x14_1).f1), .int .i64 ((rd_T39 l1 x14_1).f2)] 39 (0, 0))) := ⟨(by rw [hw]; exact (by (with_reducible repeat (first | refine blk_drewN ?_ _ | refine blk_drew ?_ | refine blk_alloc ?_ _)); refine blk_put (cs := #[.int .i64 ((rd_T39 l1 x14_1).f0), .int .i64 ((rd_T39 l1 x14_1).f1), .int .i64 0]) ?_ 2 _ rfl; (with_reducible repeat (first | refine blk_drewN ?_ _ | refine blk_drew ?_ | refine blk_alloc ?_ _)); refine blk_put (cs := #[.int .i64 ((rd_T39 l1 x14_1).f0), .int .i64 0, .int .i64 0]) ?_ 1 _ rfl; (with_reducible repeat (first | refine blk_drewN ?_ _ | refine blk_drew ?_ | refine blk_alloc ?_ _)); refine blk_put (cs := #[.int .i64 0, .int .i64 0, .int .i64 0]) ?_ 0 _ rfl; (with_reducible repeat (first | refine blk_drewN ?_ _ | refine blk_drew ?_ | refine blk_alloc ?_ _)); exact BK535.out))⟩; have n2_ : Aside0 (Below w.heap.size w w12) := ⟨(by rw [hw]; exact Xi)⟩; clear hw; clear BK0; clear BK535; clear HB; have BK0 := n0_; have BK535 := n1_; have HB := n2_; clear n0_ n1_ n2_; obtain ⟨hcz13_0, hcz13_1, hcz13_2⟩ := Xc3 BK535; obtain ⟨hfz13_0, hfz13_1, hfz13_2⟩ := Xf3 BK535))
  have H := HC8.out
  clear HC8
  obtain ⟨c14, H⟩ | ⟨c14, H⟩ := Xiu H
  ·have c14b0 : (((rd_T39 l1 x14_1).f0) == a2) = true := beq_iff_eq.mpr c14
   have c14b1 : (((rd_T39 l1 x14_1).f0) != a2) = false := bne_eq_false_iff_eq.mpr c14
   clear c14
   (first | rw [c14b0] | (simp only [i64_w, i32_w]; rw [c14b0]) | skip)
   obtain ⟨t536, A15, H⟩ := Xbi H
   try dsimp only at H
   obtain ⟨t537, A16, H⟩ := Xbi H
   try dsimp only at H
   have H' := Aside0.mk H
   clear H
   have hnb17 := NB535_0.out
   have hnc17 := NB0_535.out
   obtain ⟨hcz18_0, hcz18_1, hcz18_2⟩ := Xc3 BK535
   obtain ⟨hfz18_0, hfz18_1, hfz18_2⟩ := Xf3 BK535
   go_wp2_with (first | ((with_reducible refine gate_callee (f := 132) rfl ?_); refine Xgo 26 Tryz.func132 #[.pointer (some ⟨g0_, 0, none⟩), .agg #[.int .i64 ((rd_T39 l1 x14_1).f0), .int .i64 ((rd_T39 l1 x14_1).f1), .int .i64 ((rd_T39 l1 x14_1).f2)], .int .i64 a3] ?_; (with_reducible refine (impl_Doc_need.calls k1 g0_ a0_0 a0_1 A0_2 c0_2 l0_2 ((rd_T39 l1 x14_1).f0) ((rd_T39 l1 x14_1).f1) ((rd_T39 l1 x14_1).f2) a3 t536 _ ?side1 ?side2 ?side3 A15.out).mono ?_); (case side1 => exact BK0.out); (case side2 => exact Xc HR0_2); (case side3 => exact HC0_2.out); rintro e w19 ⟨rfl, hb⟩; refine ⟨_, rfl, ?_⟩; replace BK0 := Xbb BK0 hb; replace BK535 := Xbb BK535 hb; replace HB := Aside0.mk (below_step Xi hb); clear hb) | ((with_reducible refine gate_callee (f := 78) rfl ?_); refine Xgo 27 Tryz.func78 #[.int .i64 x9_1, .int .i64 t536] ?_; (with_reducible refine (impl_joined.calls x9_1 t536 t537 _ A16.out).mono ?_); rintro e w20 ⟨rfl, hb⟩; refine ⟨_, rfl, ?_⟩; replace BK0 := Xbb BK0 hb; replace BK535 := Xbb BK535 hb; replace HB := Aside0.mk (below_step Xi hb); clear hb))
   go_roundg k1
   case measure => have := HK1.out; omega
   case rel => exact ⟨(t537), (wrap64 (x14_1 + 1)), Xr, Xr, H', Xk1, BK0, ⟨Xi⟩⟩
  have c14b0 : (((rd_T39 l1 x14_1).f0) == a2) = false := beq_eq_false_iff_ne.mpr c14
  have c14b1 : (((rd_T39 l1 x14_1).f0) != a2) = true := bne_iff_ne.mpr c14
  (first | rw [c14b0] | (simp only [i64_w, i32_w]; rw [c14b0]) | skip)
  have H' := Aside0.mk H
  clear H
  go_wp2
  go_roundg k1
  case measure => have := HK1.out; omega
  case rel => exact ⟨(x9_1), (wrap64 (x14_1 + 1)), Xr, Xr, H', Xk1, BK0, ⟨Xi⟩⟩
 obtain rfl := Option.some.inj H
 go_wp2
 go_ret
 exact ⟨Xe, Xi⟩
def impl_Doc_wanted.f (k : Nat) (a0_0 : Int) (a0_1 : Int) (l0_2 : List (S113)) (l1 : List (S39)) (a2_0 : Int) (a2_1 : Int) (a2_2 : Int) (a3 : Int) : Option (Int) := (impl_Doc_mode.f k a0_0 a0_1 l0_2 l1 a2_0 a3).bind fun t540 => ((impl_Doc_need.f k a0_0 a0_1 l0_2 a2_0 a2_1 a2_2 a3).bind fun t541 => ((impl_joined.f t540 t541).bind fun t542 => (some t542)))
def impl_Doc_wanted.T1 : Bool × List (List Nat × List Nat) := (true, [([], []), ([], []), ([], []), ([2], [2]), ([], []), ([0, 1, 3, 4], [0, 1, 3, 4]), ([], []), ([], []), ([], []), ([6, 7, 8, 5], [6, 7, 8]), ([5, 9, 9], [5, 9]), ([10, 10, 0, 1, 2, 3, 4, 5, 6, 7, 8, 9, 10], [10])])
def impl_Doc_wanted.B1 : List Nat := [0, 0, 0, 4, 0, 31, 0, 0, 0, 511, 1023, 2047]
theorem impl_Doc_wanted.tab1 : rtab .any (opsOf Tryz.f99 1) = impl_Doc_wanted.T1 := by kernel_rfl
theorem impl_Doc_wanted.bits1 : waitsOk impl_Doc_wanted.T1.2 impl_Doc_wanted.B1 = true := by kernel_rfl
theorem impl_Doc_wanted.calls (k : Nat) (g0_ : Nat) (a0_0 : Int) (a0_1 : Int) (A0_2 : Option Addr) (c0_2 : Nat) (l0_2 : List (S113)) (A1 : Option Addr) (c1 : Nat) (l1 : List (S39)) (a2_0 : Int) (a2_1 : Int) (a2_2 : Int) (a3 : Int) (r : Int) (w : World) (hg0_ : w.heap[g0_]? = some (.cells #[.int .i64 a0_0, .int .i64 a0_1, .slice A0_2 l0_2.length c0_2] 35 (0, 0))) (hr0_2 : Kd.C k113 w A0_2 l0_2.length l0_2) (hc0_2 : l0_2.length ≤ c0_2) (hr1 : Kd.C k39 w A1 l1.length l1) (hc1 : l1.length ≤ c1) (h : impl_Doc_wanted.f k a0_0 a0_1 l0_2 l1 a2_0 a2_1 a2_2 a3 = some r) :
  Calls Tryz.prog 99 #[.pointer (some ⟨g0_, 0, none⟩), .slice A1 l1.length c1, .agg #[.int .i64 a2_0, .int .i64 a2_1, .int .i64 a2_2], .int .i64 a3] w fun e w' => e = .returned (.int .i64 r) ∧ Below w.heap.size w w' := by
 have hu39 := Tryz.underlying39
 have HR0_2 := Aside0.mk hr0_2
 have HC0_2 := Aside0.mk hc0_2
 clear hr0_2 hc0_2
 have HR1 := Aside0.mk hr1
 have HC1 := Aside0.mk hc1
 clear hr1 hc1
 have BK0 := Aside0.mk hg0_
 clear hg0_
 have HB := Aside0.mk (Below.refl w.heap.size w)
 have H : ((impl_Doc_mode.f k a0_0 a0_1 l0_2 l1 a2_0 a3).bind fun t540 => ((impl_Doc_need.f k a0_0 a0_1 l0_2 a2_0 a2_1 a2_2 a3).bind fun t541 => ((impl_joined.f t540 t541).bind fun t542 => (some t542)))) = some r := h
 clear h
 obtain ⟨t540, A5, H⟩ := Xbi H
 try dsimp only at H
 obtain ⟨t541, A6, H⟩ := Xbi H
 try dsimp only at H
 obtain ⟨t542, A7, H⟩ := Xbi H
 try dsimp only at H
 obtain rfl := Option.some.inj H
 go_enter Tryz.func99, Tryz.ntmps99
 try go_wp2_with (first | ((with_reducible refine gate_dst (N := 6) rfl ?_); refine Xbox 6 #[.int .i64 a2_0, .int .i64 a2_1, .int .i64 a2_2] 39 ?_; intro gb539 hg w8 hbox hb; have BK539 := Aside0.mk (hbox); have GE539 := Xge hg Xi; replace HB := Aside0.mk (below_step Xi hb); have NB0_539 := Xnb hg BK0; have NB539_0 := Xns NB0_539; replace BK0 := Xbb BK0 hb; clear hb hbox hg))
 replace BK0 := Aside0.mk (blk_drew BK0.out)
 replace BK539 := Aside0.mk (blk_drew BK539.out)
 replace HB := Aside0.mk (below_drew1 HB.out)
 refine start_ (n := 12) (S := fun w' => w'.cell? ⟨gb539, 0, none⟩ = some (.int .i64 a2_0) ∧ w'.cell? ⟨gb539, 1, none⟩ = some (.int .i64 a2_1) ∧ w'.cell? ⟨gb539, 2, none⟩ = some (.int .i64 a2_2)) (ds := []) #[false, false, false, false, false, false, false, false, false, false, false, false] (by kernel_rfl) rfl rfl ⟨(blk_cell BK539.out 0).trans rfl, (blk_cell BK539.out 1).trans rfl, (blk_cell BK539.out 2).trans rfl⟩ (fun hHeld => ?_); refine with_tabW impl_Doc_wanted.tab1 impl_Doc_wanted.bits1 (fun HT_ HW_ => ?_)
 generalize w8.drew = w9 at BK0 BK539 HB hHeld ⊢
 refine Xpu 0 9 (XW.bs 12 1) HT_.out ?_
 refine Xpu 1 10 (XW.bs 12 3) HT_.out ?_
 refine Xpu 2 11 (XW.bs 12 7) HT_.out ?_
 refine Xpu 4 13 (XW.bs 12 23) HT_.out ?_
 refine Xpu 6 15 (XW.bs 12 87) HT_.out ?_
 refine Xpu 8 17 (XW.bs 12 343) HT_.out ?_
 refine Xta 3 12 (XW.bs 12 351) HT_.out HW_.out hHeld ?_
 refine Xta 7 16 (XW.bs 12 479) HT_.out HW_.out hHeld ?_
 refine one_ (i := 5) (N := some 14) (XW.bs 12 511) rfl rfl (one_of HT_.out (by kernel_rfl)) (by decide) (fun K hK => ?_)
 refine goes_ Tryz.func76 (by kernel_rfl) rfl #[.pointer (some ⟨g0_, 0, none⟩), .slice A1 l1.length c1, .int .i64 a2_0, .int .i64 a3] (by rfl) rfl rfl (by (try simp only [List.map_toArray, List.map_cons, List.map_nil]); first | done | rfl | (simp only [List.length_drop, List.length_take]; rfl)) ?_
 with_reducible refine (impl_Doc_mode.calls k g0_ a0_0 a0_1 A0_2 c0_2 l0_2 _ _ l1 a2_0 a3 t540 _ ?side1 ?side2 ?side3 ?side4 ?side5 A5.out).mono ?_
 (case side1 => exact BK0.out)
 (case side2 => exact Xc HR0_2)
 (case side3 => exact HC0_2.out)
 (case side4 => exact Xc HR1)
 (case side5 => exact HC1.out)
 rintro e w10 ⟨rfl, hb⟩
 refine ⟨_, rfl, ?_⟩
 replace BK0 := Xbb BK0 hb
 replace BK539 := Xbb BK539 hb
 replace HB := Aside0.mk (below_step Xi hb)
 try clear hb
 try clear hb2
 try clear hk
 try clear hi
 refine hK.out _ _ ⟨(blk_cell BK539.out 0).trans rfl, (blk_cell BK539.out 1).trans rfl, (blk_cell BK539.out 2).trans rfl⟩ (fun hHeld => ?_)
 clear hK K
 refine Xno ?_
 refine one_ (i := 9) (N := some 18) (XW.bs 12 1023) rfl rfl (one_of HT_.out (by kernel_rfl)) (by decide) (fun K hK => ?_)
 refine goes_ Tryz.func132 (by kernel_rfl) rfl #[.pointer (some ⟨g0_, 0, none⟩), .agg #[.int .i64 a2_0, .int .i64 a2_1, .int .i64 a2_2], .int .i64 a3] (by rfl) rfl rfl (by (try simp only [List.map_toArray, List.map_cons, List.map_nil]); first | done | rfl | (simp only [List.length_drop, List.length_take]; rfl)) ?_
 with_reducible refine (impl_Doc_need.calls k g0_ a0_0 a0_1 A0_2 c0_2 l0_2 a2_0 a2_1 a2_2 a3 t541 _ ?side1 ?side2 ?side3 A6.out).mono ?_
 (case side1 => exact BK0.out)
 (case side2 => exact Xc HR0_2)
 (case side3 => exact HC0_2.out)
 rintro e w11 ⟨rfl, hb⟩
 refine ⟨_, rfl, ?_⟩
 replace BK0 := Xbb BK0 hb
 replace BK539 := Xbb BK539 hb
 replace HB := Aside0.mk (below_step Xi hb)
 try clear hb
 try clear hb2
 try clear hk
 try clear hi
 refine hK.out _ _ ⟨(blk_cell BK539.out 0).trans rfl, (blk_cell BK539.out 1).trans rfl, (blk_cell BK539.out 2).trans rfl⟩ (fun hHeld => ?_)
 clear hK K
 refine Xno ?_
 refine one_ (i := 10) (N := some 19) (XW.bs 12 2047) rfl rfl (one_of HT_.out (by kernel_rfl)) (by decide) (fun K hK => ?_)
 refine goes_ Tryz.func78 (by kernel_rfl) rfl #[.int .i64 t540, .int .i64 t541] (by rfl) rfl rfl (by (try simp only [List.map_toArray, List.map_cons, List.map_nil]); first | done | rfl | (simp only [List.length_drop, List.length_take]; rfl)) ?_
 with_reducible refine (impl_joined.calls t540 t541 t542 _ A7.out).mono ?_
 rintro e w12 ⟨rfl, hb⟩
 refine ⟨_, rfl, ?_⟩
 replace BK0 := Xbb BK0 hb
 replace BK539 := Xbb BK539 hb
 replace HB := Aside0.mk (below_step Xi hb)
 try clear hb
 try clear hb2
 try clear hk
 try clear hi
 refine hK.out _ _ ⟨(blk_cell BK539.out 0).trans rfl, (blk_cell BK539.out 1).trans rfl, (blk_cell BK539.out 2).trans rfl⟩ (fun hHeld => ?_)
 clear hK K
 refine Xno ?_
 refine Xpu 11 8 (XW.bs 12 4095) HT_.out ?_
 refine done_ (done_of HT_.out (by kernel_rfl)) ?_
 try go_wp2_with (fail)
 go_ret
 exact ⟨Xe, Xi⟩
def impl_compatible.f (a0 : Int) (a1 : Int) : Option (Bool) := if (mn a0 a1) = 0 then (some true) else (if (mn a0 a1) = 1 then (some ((mx a0 a1) != 5)) else (if (mn a0 a1) = 2 then (some ((mx a0 a1) == 2)) else (if (mn a0 a1) = 3 then (some ((mx a0 a1) == 3)) else (some false))))
theorem impl_compatible.calls (a0 : Int) (a1 : Int) (r : Bool) (w : World) (h : impl_compatible.f a0 a1 = some r) :
  Calls Tryz.prog 98 #[.int .i64 a0, .int .i64 a1] w fun e w' => e = .returned (.bool r) ∧ Below w.heap.size w w' := by
 have HB := Aside0.mk (Below.refl w.heap.size w)
 have H : (if (mn a0 a1) = 0 then (some true) else (if (mn a0 a1) = 1 then (some ((mx a0 a1) != 5)) else (if (mn a0 a1) = 2 then (some ((mx a0 a1) == 2)) else (if (mn a0 a1) = 3 then (some ((mx a0 a1) == 3)) else (some false))))) = some r := h
 clear h
 obtain ⟨ji3, hji3⟩ : ∃ j_ : Int, (mn a0 a1) = j_ := ⟨_, rfl⟩
 replace H : (if (ji3) = 0 then (some true) else (if (ji3) = 1 then (some ((mx a0 a1) != 5)) else (if (ji3) = 2 then (some ((mx a0 a1) == 2)) else (if (ji3) = 3 then (some ((mx a0 a1) == 3)) else (some false))))) = some r := by first | (rw [hji3] at H; exact H) | (simp only [hji3] at H ⊢; exact H)
 have hji3_ : (if a1 < a0 then a1 else a0) = ji3 := hji3
 obtain ⟨ji4, hji4⟩ : ∃ j_ : Int, (mx a0 a1) = j_ := ⟨_, rfl⟩
 replace H : (if (ji3) = 0 then (some true) else (if (ji3) = 1 then (some ((ji4) != 5)) else (if (ji3) = 2 then (some ((ji4) == 2)) else (if (ji3) = 3 then (some ((ji4) == 3)) else (some false))))) = some r := by first | (rw [hji4] at H; exact H) | (simp only [hji4] at H ⊢; exact H)
 have hji4_ : (if a0 < a1 then a1 else a0) = ji4 := hji4
 obtain ⟨c5, H⟩ | ⟨c5, H⟩ := Xiu H
 ·have c5b0 : ((ji3) == 0) = true := beq_iff_eq.mpr c5
  have c5b1 : ((ji3) != 0) = false := bne_eq_false_iff_eq.mpr c5
  clear c5
  obtain rfl := Option.some.inj H
  go_enter Tryz.func98, Tryz.ntmps98
  go_wp2
  go_ret
  exact ⟨by first | rfl | (simp [errW_none, errW_some] <;> rfl) | (simp only [← hji3, ← hji4]; first | rfl | (simp [errW_none, errW_some] <;> rfl)) | (simp [*, errW_none, errW_some] <;> rfl), Xi⟩
 have c5b0 : ((ji3) == 0) = false := beq_eq_false_iff_ne.mpr c5
 have c5b1 : ((ji3) != 0) = true := bne_iff_ne.mpr c5
 obtain ⟨c6, H⟩ | ⟨c6, H⟩ := Xiu H
 ·have c6b0 : ((ji3) == 1) = true := beq_iff_eq.mpr c6
  have c6b1 : ((ji3) != 1) = false := bne_eq_false_iff_eq.mpr c6
  clear c6
  obtain rfl := Option.some.inj H
  go_enter Tryz.func98, Tryz.ntmps98
  go_wp2
  go_ret
  exact ⟨by first | rfl | (simp [errW_none, errW_some] <;> rfl) | (simp only [← hji3, ← hji4]; first | rfl | (simp [errW_none, errW_some] <;> rfl)) | (simp [*, errW_none, errW_some] <;> rfl), Xi⟩
 have c6b0 : ((ji3) == 1) = false := beq_eq_false_iff_ne.mpr c6
 have c6b1 : ((ji3) != 1) = true := bne_iff_ne.mpr c6
 obtain ⟨c7, H⟩ | ⟨c7, H⟩ := Xiu H
 ·have c7b0 : ((ji3) == 2) = true := beq_iff_eq.mpr c7
  have c7b1 : ((ji3) != 2) = false := bne_eq_false_iff_eq.mpr c7
  clear c7
  obtain rfl := Option.some.inj H
  go_enter Tryz.func98, Tryz.ntmps98
  go_wp2
  go_ret
  exact ⟨by first | rfl | (simp [errW_none, errW_some] <;> rfl) | (simp only [← hji3, ← hji4]; first | rfl | (simp [errW_none, errW_some] <;> rfl)) | (simp [*, errW_none, errW_some] <;> rfl), Xi⟩
 have c7b0 : ((ji3) == 2) = false := beq_eq_false_iff_ne.mpr c7
 have c7b1 : ((ji3) != 2) = true := bne_iff_ne.mpr c7
 obtain ⟨c8, H⟩ | ⟨c8, H⟩ := Xiu H
 ·have c8b0 : ((ji3) == 3) = true := beq_iff_eq.mpr c8
  have c8b1 : ((ji3) != 3) = false := bne_eq_false_iff_eq.mpr c8
  clear c8
  obtain rfl := Option.some.inj H
  go_enter Tryz.func98, Tryz.ntmps98
  go_wp2
  go_ret
  exact ⟨by first | rfl | (simp [errW_none, errW_some] <;> rfl) | (simp only [← hji3, ← hji4]; first | rfl | (simp [errW_none, errW_some] <;> rfl)) | (simp [*, errW_none, errW_some] <;> rfl), Xi⟩
 have c8b0 : ((ji3) == 3) = false := beq_eq_false_iff_ne.mpr c8
 have c8b1 : ((ji3) != 3) = true := bne_iff_ne.mpr c8
 obtain rfl := Option.some.inj H
 go_enter Tryz.func98, Tryz.ntmps98
 go_wp2
 go_ret
 exact ⟨by first | rfl | (simp [errW_none, errW_some] <;> rfl) | (simp only [← hji3, ← hji4]; first | rfl | (simp [errW_none, errW_some] <;> rfl)) | (simp [*, errW_none, errW_some] <;> rfl), Xi⟩
def impl_Doc_conflicts_1_1.f (k : Nat) (a0 : Int) (a1_0 : Int) (a1_1 : Int) (l1_2 : List (S113)) (l2_0 : List (S39)) (a3_0 : Int) (a4_0 : Int) (a4_1 : Int) (a4_2 : Int) : Option (Bool) := (impl_Doc_mode.f k a1_0 a1_1 l1_2 l2_0 a3_0 a0).bind fun t545 => ((impl_Doc_wanted.f k a1_0 a1_1 l1_2 l2_0 a4_0 a4_1 a4_2 a0).bind fun t546 => ((impl_compatible.f t545 t546).bind fun t547 => (some (!t547))))
def impl_Doc_conflicts_1_1.T1 : Bool × List (List Nat × List Nat) := (true, [([], []), ([], []), ([], []), ([], []), ([0, 1, 2, 3], [0, 1, 2, 3]), ([], []), ([], []), ([], []), ([], []), ([5, 6, 7, 8, 4], [5, 6, 7, 8]), ([4, 9, 9], [4, 9]), ([10], [10]), ([11, 10, 0, 1, 2, 3, 4, 5, 6, 7, 8, 9, 10, 11], [11])])
def impl_Doc_conflicts_1_1.B1 : List Nat := [0, 0, 0, 0, 15, 0, 0, 0, 0, 511, 1023, 2047, 4095]
theorem impl_Doc_conflicts_1_1.tab1 : rtab .any (opsOf Tryz.f97 1) = impl_Doc_conflicts_1_1.T1 := by kernel_rfl
theorem impl_Doc_conflicts_1_1.bits1 : waitsOk impl_Doc_conflicts_1_1.T1.2 impl_Doc_conflicts_1_1.B1 = true := by kernel_rfl
theorem impl_Doc_conflicts_1_1.calls (k : Nat) (a0 : Int) (g1_ : Nat) (q1_ : Nat) (a1_0 : Int) (a1_1 : Int) (A1_2 : Option Addr) (c1_2 : Nat) (l1_2 : List (S113)) (g2_ : Nat) (A2_0 : Option Addr) (c2_0 : Nat) (l2_0 : List (S39)) (g3_ : Nat) (a3_0 : Int) (g4_ : Nat) (a4_0 : Int) (a4_1 : Int) (a4_2 : Int) (r : Bool) (w : World) (hq1_ : w.heap[q1_]? = some (.cells #[.int .i64 a1_0, .int .i64 a1_1, .slice A1_2 l1_2.length c1_2] 35 (0, 0))) (hg1_ : w.heap[g1_]? = some (.cells #[.pointer (some ⟨q1_, 0, none⟩)] 115 (0, 0))) (hr1_2 : Kd.C k113 w A1_2 l1_2.length l1_2) (hc1_2 : l1_2.length ≤ c1_2) (hg2_ : w.heap[g2_]? = some (.cells #[.slice A2_0 l2_0.length c2_0] 37 (0, 0))) (hr2_0 : Kd.C k39 w A2_0 l2_0.length l2_0) (hc2_0 : l2_0.length ≤ c2_0) (hg3_ : w.heap[g3_]? = some (.cells #[.int .i64 a3_0] 3 (0, 0))) (hg4_ : w.heap[g4_]? = some (.cells #[.int .i64 a4_0, .int .i64 a4_1, .int .i64 a4_2] 39 (0, 0))) (h : impl_Doc_conflicts_1_1.f k a0 a1_0 a1_1 l1_2 l2_0 a3_0 a4_0 a4_1 a4_2 = some r) :
  Calls Tryz.prog 97 #[.int .i64 a0, .pointer (some ⟨g1_, 0, none⟩), .pointer (some ⟨g2_, 0, none⟩), .pointer (some ⟨g3_, 0, none⟩), .pointer (some ⟨g4_, 0, none⟩)] w fun e w' => e = .returned (.bool r) ∧ Below w.heap.size w w' := by
 have hu39 := Tryz.underlying39
 have HR1_2 := Aside0.mk hr1_2
 have HC1_2 := Aside0.mk hc1_2
 clear hr1_2 hc1_2
 have HR2_0 := Aside0.mk hr2_0
 have HC2_0 := Aside0.mk hc2_0
 clear hr2_0 hc2_0
 have BK81 := Aside0.mk hq1_
 clear hq1_
 have BK1 := Aside0.mk hg1_
 clear hg1_
 have BK2 := Aside0.mk hg2_
 clear hg2_
 have BK3 := Aside0.mk hg3_
 clear hg3_
 have BK4 := Aside0.mk hg4_
 clear hg4_
 have HB := Aside0.mk (Below.refl w.heap.size w)
 have H : ((impl_Doc_mode.f k a1_0 a1_1 l1_2 l2_0 a3_0 a0).bind fun t545 => ((impl_Doc_wanted.f k a1_0 a1_1 l1_2 l2_0 a4_0 a4_1 a4_2 a0).bind fun t546 => ((impl_compatible.f t545 t546).bind fun t547 => (some (!t547))))) = some r := h
 clear h
 obtain ⟨t545, A6, H⟩ := Xbi H
 try dsimp only at H
 obtain ⟨t546, A7, H⟩ := Xbi H
 try dsimp only at H
 obtain ⟨t547, A8, H⟩ := Xbi H
 try dsimp only at H
 obtain rfl := Option.some.inj H
 go_enter Tryz.func97, Tryz.ntmps97
 try go_wp2_with (fail)
 replace BK81 := Aside0.mk (blk_drew BK81.out)
 replace BK1 := Aside0.mk (blk_drew BK1.out)
 replace BK2 := Aside0.mk (blk_drew BK2.out)
 replace BK3 := Aside0.mk (blk_drew BK3.out)
 replace BK4 := Aside0.mk (blk_drew BK4.out)
 replace HB := Aside0.mk (below_drew1 HB.out)
 refine start_ (n := 13) (S := fun w' => w'.cell? ⟨g1_, 0, none⟩ = some (.pointer (some ⟨q1_, 0, none⟩)) ∧ w'.cell? ⟨g2_, 0, none⟩ = some (.slice A2_0 l2_0.length c2_0) ∧ w'.cell? ⟨g3_, 0, none⟩ = some (.int .i64 a3_0) ∧ w'.cell? ⟨g4_, 0, none⟩ = some (.int .i64 a4_0) ∧ w'.cell? ⟨g4_, 1, none⟩ = some (.int .i64 a4_1) ∧ w'.cell? ⟨g4_, 2, none⟩ = some (.int .i64 a4_2)) (ds := []) #[false, false, false, false, false, false, false, false, false, false, false, false, false] (by kernel_rfl) rfl rfl ⟨(blk_cell BK1.out 0).trans rfl, (blk_cell BK2.out 0).trans rfl, (blk_cell BK3.out 0).trans rfl, (blk_cell BK4.out 0).trans rfl, (blk_cell BK4.out 1).trans rfl, (blk_cell BK4.out 2).trans rfl⟩ (fun hHeld => ?_); refine with_tabW impl_Doc_conflicts_1_1.tab1 impl_Doc_conflicts_1_1.bits1 (fun HT_ HW_ => ?_)
 generalize w.drew = w9 at BK81 BK1 BK2 BK3 BK4 HB hHeld ⊢
 refine Xpu 3 10 (XW.bs 13 8) HT_.out ?_
 refine Xpu 8 15 (XW.bs 13 264) HT_.out ?_
 refine Xta 0 7 (XW.bs 13 265) HT_.out HW_.out hHeld ?_
 refine Xta 1 8 (XW.bs 13 267) HT_.out HW_.out hHeld ?_
 refine Xta 2 9 (XW.bs 13 271) HT_.out HW_.out hHeld ?_
 refine Xta 5 12 (XW.bs 13 303) HT_.out HW_.out hHeld ?_
 refine Xta 6 13 (XW.bs 13 367) HT_.out HW_.out hHeld ?_
 refine Xta 7 14 (XW.bs 13 495) HT_.out HW_.out hHeld ?_
 refine one_ (i := 4) (N := some 11) (XW.bs 13 511) rfl rfl (one_of HT_.out (by kernel_rfl)) (by decide) (fun K hK => ?_)
 refine goes_ Tryz.func76 (by kernel_rfl) rfl #[.pointer (some ⟨q1_, 0, none⟩), .slice A2_0 l2_0.length c2_0, .int .i64 a3_0, .int .i64 a0] (by rfl) rfl rfl (by (try simp only [List.map_toArray, List.map_cons, List.map_nil]); first | done | rfl | (simp only [List.length_drop, List.length_take]; rfl)) ?_
 with_reducible refine (impl_Doc_mode.calls k q1_ a1_0 a1_1 A1_2 c1_2 l1_2 _ _ l2_0 a3_0 a0 t545 _ ?side1 ?side2 ?side3 ?side4 ?side5 A6.out).mono ?_
 (case side1 => exact BK81.out)
 (case side2 => exact Xc HR1_2)
 (case side3 => exact HC1_2.out)
 (case side4 => exact Xc HR2_0)
 (case side5 => exact HC2_0.out)
 rintro e w10 ⟨rfl, hb⟩
 refine ⟨_, rfl, ?_⟩
 replace BK81 := Xbb BK81 hb
 replace BK1 := Xbb BK1 hb
 replace BK2 := Xbb BK2 hb
 replace BK3 := Xbb BK3 hb
 replace BK4 := Xbb BK4 hb
 replace HB := Aside0.mk (below_step Xi hb)
 try clear hb
 try clear hb2
 try clear hk
 try clear hi
 refine hK.out _ _ ⟨(blk_cell BK1.out 0).trans rfl, (blk_cell BK2.out 0).trans rfl, (blk_cell BK3.out 0).trans rfl, (blk_cell BK4.out 0).trans rfl, (blk_cell BK4.out 1).trans rfl, (blk_cell BK4.out 2).trans rfl⟩ (fun hHeld => ?_)
 clear hK K
 refine Xno ?_
 refine one_ (i := 9) (N := some 16) (XW.bs 13 1023) rfl rfl (one_of HT_.out (by kernel_rfl)) (by decide) (fun K hK => ?_)
 refine goes_ Tryz.func99 (by kernel_rfl) rfl #[.pointer (some ⟨q1_, 0, none⟩), .slice A2_0 l2_0.length c2_0, .agg #[.int .i64 a4_0, .int .i64 a4_1, .int .i64 a4_2], .int .i64 a0] (by rfl) rfl rfl (by (try simp only [List.map_toArray, List.map_cons, List.map_nil]); first | done | rfl | (simp only [List.length_drop, List.length_take]; rfl)) ?_
 with_reducible refine (impl_Doc_wanted.calls k q1_ a1_0 a1_1 A1_2 c1_2 l1_2 _ _ l2_0 a4_0 a4_1 a4_2 a0 t546 _ ?side1 ?side2 ?side3 ?side4 ?side5 A7.out).mono ?_
 (case side1 => exact BK81.out)
 (case side2 => exact Xc HR1_2)
 (case side3 => exact HC1_2.out)
 (case side4 => exact Xc HR2_0)
 (case side5 => exact HC2_0.out)
 rintro e w11 ⟨rfl, hb⟩
 refine ⟨_, rfl, ?_⟩
 replace BK81 := Xbb BK81 hb
 replace BK1 := Xbb BK1 hb
 replace BK2 := Xbb BK2 hb
 replace BK3 := Xbb BK3 hb
 replace BK4 := Xbb BK4 hb
 replace HB := Aside0.mk (below_step Xi hb)
 try clear hb
 try clear hb2
 try clear hk
 try clear hi
 refine hK.out _ _ ⟨(blk_cell BK1.out 0).trans rfl, (blk_cell BK2.out 0).trans rfl, (blk_cell BK3.out 0).trans rfl, (blk_cell BK4.out 0).trans rfl, (blk_cell BK4.out 1).trans rfl, (blk_cell BK4.out 2).trans rfl⟩ (fun hHeld => ?_)
 clear hK K
 refine Xno ?_
 refine one_ (i := 10) (N := some 17) (XW.bs 13 2047) rfl rfl (one_of HT_.out (by kernel_rfl)) (by decide) (fun K hK => ?_)
 refine goes_ Tryz.func98 (by kernel_rfl) rfl #[.int .i64 t545, .int .i64 t546] (by rfl) rfl rfl (by (try simp only [List.map_toArray, List.map_cons, List.map_nil]); first | done | rfl | (simp only [List.length_drop, List.length_take]; rfl)) ?_
 with_reducible refine (impl_compatible.calls t545 t546 t547 _ A8.out).mono ?_
 rintro e w12 ⟨rfl, hb⟩
 refine ⟨_, rfl, ?_⟩
 replace BK81 := Xbb BK81 hb
 replace BK1 := Xbb BK1 hb
 replace BK2 := Xbb BK2 hb
 replace BK3 := Xbb BK3 hb
 replace BK4 := Xbb BK4 hb
 replace HB := Aside0.mk (below_step Xi hb)
 try clear hb
 try clear hb2
 try clear hk
 try clear hi
 refine hK.out _ _ ⟨(blk_cell BK1.out 0).trans rfl, (blk_cell BK2.out 0).trans rfl, (blk_cell BK3.out 0).trans rfl, (blk_cell BK4.out 0).trans rfl, (blk_cell BK4.out 1).trans rfl, (blk_cell BK4.out 2).trans rfl⟩ (fun hHeld => ?_)
 clear hK K
 refine Xno ?_
 refine Xpu 11 18 (XW.bs 13 4095) HT_.out ?_
 refine Xpu 12 6 (XW.bs 13 8191) HT_.out ?_
 refine done_ (done_of HT_.out (by kernel_rfl)) ?_
 try go_wp2_with (fail)
 go_ret
 exact ⟨Xe, Xi⟩
def slices_IndexFunc_int_int_at_impl_Doc_conflicts_1_1.l0 : Nat → List Int → Int → Int → List (S39) → Int → Int → Int → Int → Int → Int → List (S113) → Option (Int)
 | 0, _, _, _, _, _, _, _, _, _, _, _ => none
 | k + 1, x0, x7, x8, x27000, x28000, x29000, x29001, x29002, x56000, x56001, x56002 => if x8 < x7 then (if 0 ≤ x8 then (if x8 < (x0.length : Int) then ((impl_Doc_conflicts_1_1.f k (rd x0 x8) x56000 x56001 x56002 x27000 x28000 x29000 x29001 x29002).bind fun t549 => (if t549 = true then (some x8) else (slices_IndexFunc_int_int_at_impl_Doc_conflicts_1_1.l0 k x0 x7 (wrap64 (x8 + 1)) x27000 x28000 x29000 x29001 x29002 x56000 x56001 x56002))) else (none)) else (none)) else (some (-1))
def slices_IndexFunc_int_int_at_impl_Doc_conflicts_1_1.f (k : Nat) (l0 : List Int) (a1_0_0 : Int) (a1_0_1 : Int) (l1_0_2 : List (S113)) (l1_1_0 : List (S39)) (a1_2_0 : Int) (a1_3_0 : Int) (a1_3_1 : Int) (a1_3_2 : Int) : Option (Int) := slices_IndexFunc_int_int_at_impl_Doc_conflicts_1_1.l0 k l0 (l0.length : Int) 0 l1_1_0 a1_2_0 a1_3_0 a1_3_1 a1_3_2 a1_0_0 a1_0_1 l1_0_2
theorem slices_IndexFunc_int_int_at_impl_Doc_conflicts_1_1.calls (k : Nat) (A0 : Option Addr) (c0 : Nat) (l0 : List Int) (g1_0_ : Nat) (q1_0_ : Nat) (g1_1_ : Nat) (g1_2_ : Nat) (g1_3_ : Nat) (a1_0_0 : Int) (a1_0_1 : Int) (A1_0_2 : Option Addr) (c1_0_2 : Nat) (l1_0_2 : List (S113)) (A1_1_0 : Option Addr) (c1_1_0 : Nat) (l1_1_0 : List (S39)) (a1_2_0 : Int) (a1_3_0 : Int) (a1_3_1 : Int) (a1_3_2 : Int) (r : Int) (w : World) (hr0 : Kd.C (Kd.int .i64) w A0 l0.length l0) (hc0 : l0.length ≤ c0) (hq1_0_ : w.heap[q1_0_]? = some (.cells #[.int .i64 a1_0_0, .int .i64 a1_0_1, .slice A1_0_2 l1_0_2.length c1_0_2] 35 (0, 0))) (hg1_0_ : w.heap[g1_0_]? = some (.cells #[.pointer (some ⟨q1_0_, 0, none⟩)] 115 (0, 0))) (hg1_1_ : w.heap[g1_1_]? = some (.cells #[.slice A1_1_0 l1_1_0.length c1_1_0] 37 (0, 0))) (hg1_2_ : w.heap[g1_2_]? = some (.cells #[.int .i64 a1_2_0] 3 (0, 0))) (hg1_3_ : w.heap[g1_3_]? = some (.cells #[.int .i64 a1_3_0, .int .i64 a1_3_1, .int .i64 a1_3_2] 39 (0, 0))) (hr1_0_2 : Kd.C k113 w A1_0_2 l1_0_2.length l1_0_2) (hc1_0_2 : l1_0_2.length ≤ c1_0_2) (hr1_1_0 : Kd.C k39 w A1_1_0 l1_1_0.length l1_1_0) (hc1_1_0 : l1_1_0.length ≤ c1_1_0) (h : slices_IndexFunc_int_int_at_impl_Doc_conflicts_1_1.f k l0 a1_0_0 a1_0_1 l1_0_2 l1_1_0 a1_2_0 a1_3_0 a1_3_1 a1_3_2 = some r) :
  Calls Tryz.prog 148 #[.slice A0 l0.length c0, .func (.func 97) #[] #[.pointer (some ⟨g1_0_, 0, none⟩), .pointer (some ⟨g1_1_, 0, none⟩), .pointer (some ⟨g1_2_, 0, none⟩), .pointer (some ⟨g1_3_, 0, none⟩)]] w fun e w' => e = .returned (.int .i64 r) ∧ Below w.heap.size w w' := by
 have HR0 := Aside0.mk hr0
 have HC0 := Aside0.mk hc0
 clear hr0 hc0
 have HR1_0_2 := Aside0.mk hr1_0_2
 have HC1_0_2 := Aside0.mk hc1_0_2
 clear hr1_0_2 hc1_0_2
 have HR1_1_0 := Aside0.mk hr1_1_0
 have HC1_1_0 := Aside0.mk hc1_1_0
 clear hr1_1_0 hc1_1_0
 have BK55 := Aside0.mk hq1_0_
 clear hq1_0_
 have BK25 := Aside0.mk hg1_0_
 clear hg1_0_
 have BK26 := Aside0.mk hg1_1_
 clear hg1_1_
 have BK27 := Aside0.mk hg1_2_
 clear hg1_2_
 have BK28 := Aside0.mk hg1_3_
 clear hg1_3_
 have HB := Aside0.mk (Below.refl w.heap.size w)
 have H : (slices_IndexFunc_int_int_at_impl_Doc_conflicts_1_1.l0 k l0 (l0.length : Int) 0 l1_1_0 a1_2_0 a1_3_0 a1_3_1 a1_3_2 a1_0_0 a1_0_1 l1_0_2) = some r := h
 clear h
 have H' := Aside0.mk H
 clear H
 go_enter Tryz.func148, Tryz.ntmps148
 go_wp2
 go_loopg [8] k (fun kq v8 w' => ∃ (x8_1 : Int), v8 = .int .i64 x8_1 ∧ Aside0 (slices_IndexFunc_int_int_at_impl_Doc_conflicts_1_1.l0 kq l0 (l0.length : Int) x8_1 l1_1_0 a1_2_0 a1_3_0 a1_3_1 a1_3_2 a1_0_0 a1_0_1 l1_0_2 = some r) ∧ Aside0 (kq ≤ k) ∧ Aside0 (w'.heap[q1_0_]? = some (.cells #[.int .i64 a1_0_0, .int .i64 a1_0_1, (.slice A1_0_2 l1_0_2.length c1_0_2)] 35 (0, 0))) ∧ Aside0 (w'.heap[g1_0_]? = some (.cells #[.pointer (some ⟨q1_0_, 0, none⟩)] 115 (0, 0))) ∧ Aside0 (w'.heap[g1_1_]? = some (.cells #[(.slice A1_1_0 l1_1_0.length c1_1_0)] 37 (0, 0))) ∧ Aside0 (w'.heap[g1_2_]? = some (.cells #[.int .i64 a1_2_0] 3 (0, 0))) ∧ Aside0 (w'.heap[g1_3_]? = some (.cells #[.int .i64 a1_3_0, .int .i64 a1_3_1, .int .i64 a1_3_2] 39 (0, 0))) ∧ Aside0 (Below w.heap.size w w'))
 case atStart => exact ⟨(0), Xr, H', Xkr, BK55, BK25, BK26, BK27, BK28, ⟨Xi⟩⟩
 clear H'
 obtain ⟨x8_1, rfl, HA, HK1, BK55, BK25, BK26, BK27, BK28, HB⟩ := hrel
 cases gk with | zero => cases HA.out | succ k1 => ?_
 have H := HA.out
 clear HA
 simp only [slices_IndexFunc_int_int_at_impl_Doc_conflicts_1_1.l0] at H
 obtain ⟨c3b0, H⟩ | ⟨c3b0, H⟩ := Xit H
 ·obtain ⟨c4b0, H⟩ := Xid H
  obtain ⟨c5b0, H⟩ := Xid H
  obtain ⟨t549, A6, H⟩ := Xbi H
  try dsimp only at H
  have HC7 := Aside0.mk H
  clear H
  have p548 : 0 ≤ (x8_1 : Int) := of_decide_eq_true Xa
  have q548 : x8_1 < (l0.length : Int) := of_decide_eq_true Xa
  obtain ⟨ad548, e548, hx548_0⟩ := Kd.at_int HR0.out x8_1 p548 q548
  cases e548
  replace hx548_0 := Xm HB hx548_0
  replace p548 := eq_true p548
  replace q548 := eq_true q548
  go_upto_if 16 with (first | (go_at_call 97; (with_reducible refine (impl_Doc_conflicts_1_1.calls k1 (rd l0 x8_1) g1_0_ q1_0_ a1_0_0 a1_0_1 A1_0_2 c1_0_2 l1_0_2 g1_1_ A1_1_0 c1_1_0 l1_1_0 g1_2_ a1_2_0 g1_3_ a1_3_0 a1_3_1 a1_3_2 t549 _ ?side1 ?side2 ?side3 ?side4 ?side5 ?side6 ?side7 ?side8 ?side9 A6.out).mono ?_); (case side1 => exact BK55.out); (case side2 => exact BK25.out); (case side3 => exact Xc HR1_0_2); (case side4 => exact HC1_0_2.out); (case side5 => exact BK26.out); (case side6 => exact Xc HR1_1_0); (case side7 => exact HC1_1_0.out); (case side8 => exact BK27.out); (case side9 => exact BK28.out); rintro e w8 ⟨rfl, hb⟩; replace BK55 := Xbb BK55 hb; replace BK25 := Xbb BK25 hb; replace BK26 := Xbb BK26 hb; replace BK27 := Xbb BK27 hb; replace BK28 := Xbb BK28 hb; replace HB := Aside0.mk (below_step Xi hb); clear hb))
  have H := HC7.out
  clear HC7
  by_cases c9 : t549 = true
  ·subst c9
   try rw [if_pos rfl] at H
   obtain rfl := Option.some.inj H
   go_wp2
   go_ret
   exact ⟨Xe, Xi⟩
  replace c9 := Bool.eq_false_iff.mpr c9
  subst c9
  try rw [if_neg (show ¬ (false = true) by decide)] at H
  have H' := Aside0.mk H
  clear H
  go_wp2
  go_roundg k1
  case measure => have := HK1.out; omega
  case rel => exact ⟨(wrap64 (x8_1 + 1)), Xr, H', Xk1, BK55, BK25, BK26, BK27, BK28, ⟨Xi⟩⟩
 obtain rfl := Option.some.inj H
 go_wp2
 go_ret
 exact ⟨Xe, Xi⟩
def slices_ContainsFunc_int_int_at_impl_Doc_conflicts_1_1.f (k : Nat) (l0 : List Int) (a1_0_0 : Int) (a1_0_1 : Int) (l1_0_2 : List (S113)) (l1_1_0 : List (S39)) (a1_2_0 : Int) (a1_3_0 : Int) (a1_3_1 : Int) (a1_3_2 : Int) : Option (Bool) := (slices_IndexFunc_int_int_at_impl_Doc_conflicts_1_1.f k l0 a1_0_0 a1_0_1 l1_0_2 l1_1_0 a1_2_0 a1_3_0 a1_3_1 a1_3_2).bind fun t550 => (some (decide (t550 ≥ 0)))
theorem slices_ContainsFunc_int_int_at_impl_Doc_conflicts_1_1.calls (k : Nat) (A0 : Option Addr) (c0 : Nat) (l0 : List Int) (g1_0_ : Nat) (q1_0_ : Nat) (g1_1_ : Nat) (g1_2_ : Nat) (g1_3_ : Nat) (a1_0_0 : Int) (a1_0_1 : Int) (A1_0_2 : Option Addr) (c1_0_2 : Nat) (l1_0_2 : List (S113)) (A1_1_0 : Option Addr) (c1_1_0 : Nat) (l1_1_0 : List (S39)) (a1_2_0 : Int) (a1_3_0 : Int) (a1_3_1 : Int) (a1_3_2 : Int) (r : Bool) (w : World) (hr0 : Kd.C (Kd.int .i64) w A0 l0.length l0) (hc0 : l0.length ≤ c0) (hq1_0_ : w.heap[q1_0_]? = some (.cells #[.int .i64 a1_0_0, .int .i64 a1_0_1, .slice A1_0_2 l1_0_2.length c1_0_2] 35 (0, 0))) (hg1_0_ : w.heap[g1_0_]? = some (.cells #[.pointer (some ⟨q1_0_, 0, none⟩)] 115 (0, 0))) (hg1_1_ : w.heap[g1_1_]? = some (.cells #[.slice A1_1_0 l1_1_0.length c1_1_0] 37 (0, 0))) (hg1_2_ : w.heap[g1_2_]? = some (.cells #[.int .i64 a1_2_0] 3 (0, 0))) (hg1_3_ : w.heap[g1_3_]? = some (.cells #[.int .i64 a1_3_0, .int .i64 a1_3_1, .int .i64 a1_3_2] 39 (0, 0))) (hr1_0_2 : Kd.C k113 w A1_0_2 l1_0_2.length l1_0_2) (hc1_0_2 : l1_0_2.length ≤ c1_0_2) (hr1_1_0 : Kd.C k39 w A1_1_0 l1_1_0.length l1_1_0) (hc1_1_0 : l1_1_0.length ≤ c1_1_0) (h : slices_ContainsFunc_int_int_at_impl_Doc_conflicts_1_1.f k l0 a1_0_0 a1_0_1 l1_0_2 l1_1_0 a1_2_0 a1_3_0 a1_3_1 a1_3_2 = some r) :
  Calls Tryz.prog 96 #[.slice A0 l0.length c0, .func (.func 97) #[] #[.pointer (some ⟨g1_0_, 0, none⟩), .pointer (some ⟨g1_1_, 0, none⟩), .pointer (some ⟨g1_2_, 0, none⟩), .pointer (some ⟨g1_3_, 0, none⟩)]] w fun e w' => e = .returned (.bool r) ∧ Below w.heap.size w w' := by
 have HR0 := Aside0.mk hr0
 have HC0 := Aside0.mk hc0
 clear hr0 hc0
 have HR1_0_2 := Aside0.mk hr1_0_2
 have HC1_0_2 := Aside0.mk hc1_0_2
 clear hr1_0_2 hc1_0_2
 have HR1_1_0 := Aside0.mk hr1_1_0
 have HC1_1_0 := Aside0.mk hc1_1_0
 clear hr1_1_0 hc1_1_0
 have BK55 := Aside0.mk hq1_0_
 clear hq1_0_
 have BK25 := Aside0.mk hg1_0_
 clear hg1_0_
 have BK26 := Aside0.mk hg1_1_
 clear hg1_1_
 have BK27 := Aside0.mk hg1_2_
 clear hg1_2_
 have BK28 := Aside0.mk hg1_3_
 clear hg1_3_
 have HB := Aside0.mk (Below.refl w.heap.size w)
 have H : ((slices_IndexFunc_int_int_at_impl_Doc_conflicts_1_1.f k l0 a1_0_0 a1_0_1 l1_0_2 l1_1_0 a1_2_0 a1_3_0 a1_3_1 a1_3_2).bind fun t550 => (some (decide (t550 ≥ 0)))) = some r := h
 clear h
 obtain ⟨t550, A3, H⟩ := Xbi H
 try dsimp only at H
 obtain rfl := Option.some.inj H
 go_enter Tryz.func96, Tryz.ntmps96
 go_wp2_with (first | ((with_reducible refine gate_callee (f := 148) rfl ?_); refine Xgo 7 Tryz.func148 #[.slice A0 l0.length c0, .func (.func 97) #[] #[.pointer (some ⟨g1_0_, 0, none⟩), .pointer (some ⟨g1_1_, 0, none⟩), .pointer (some ⟨g1_2_, 0, none⟩), .pointer (some ⟨g1_3_, 0, none⟩)]] ?_; (with_reducible refine (slices_IndexFunc_int_int_at_impl_Doc_conflicts_1_1.calls k _ _ l0 g1_0_ q1_0_ g1_1_ g1_2_ g1_3_ a1_0_0 a1_0_1 A1_0_2 c1_0_2 l1_0_2 A1_1_0 c1_1_0 l1_1_0 a1_2_0 a1_3_0 a1_3_1 a1_3_2 t550 _ ?side1 ?side2 ?side3 ?side4 ?side5 ?side6 ?side7 ?side8 ?side9 ?side10 ?side11 A3.out).mono ?_); (case side1 => repeat (first | exact HR0.out | (with_reducible first | refine Kd.C_alloc ?_ _ | refine Kd.C_drewN ?_ _ | refine Kd.C_drew ?_))); (case side2 => exact HC0.out); (case side3 => exact BK55.out); (case side4 => exact BK25.out); (case side5 => exact BK26.out); (case side6 => exact BK27.out); (case side7 => exact BK28.out); (case side8 => repeat (first | exact HR1_0_2.out | (with_reducible first | refine Kd.C_alloc ?_ _ | refine Kd.C_drewN ?_ _ | refine Kd.C_drew ?_))); (case side9 => exact HC1_0_2.out); (case side10 => repeat (first | exact HR1_1_0.out | (with_reducible first | refine Kd.C_alloc ?_ _ | refine Kd.C_drewN ?_ _ | refine Kd.C_drew ?_))); (case side11 => exact HC1_1_0.out); rintro e w4 ⟨rfl, hb⟩; refine ⟨_, rfl, ?_⟩; replace BK55 := Xbb BK55 hb; replace BK25 := Xbb BK25 hb; replace BK26 := Xbb BK26 hb; replace BK27 := Xbb BK27 hb; replace BK28 := Xbb BK28 hb; replace HB := Aside0.mk (below_step Xi hb); clear hb))
 go_ret
 exact ⟨Xe, Xi⟩
def impl_Doc_conflicts_1.f (k : Nat) (a0 : Int) (a1_0 : Int) (a1_1 : Int) (a1_2 : Int) (a2_0 : Int) (a2_1 : Int) (l2_2 : List (S113)) (l3_0 : List (S39)) : Option (Bool) := if a0 = a1_0 then (some true) else ((impl_Doc_path.f k a2_0 a2_1 l2_2 a1_1).bind fun t552 => ((slices_ContainsFunc_int_int_at_impl_Doc_conflicts_1_1.f k t552 a2_0 a2_1 l2_2 l3_0 a0 a1_0 a1_1 a1_2).bind fun t555 => (some (!t555))))
theorem impl_Doc_conflicts_1.calls (k : Nat) (a0 : Int) (g1_ : Nat) (a1_0 : Int) (a1_1 : Int) (a1_2 : Int) (g2_ : Nat) (q2_ : Nat) (a2_0 : Int) (a2_1 : Int) (A2_2 : Option Addr) (c2_2 : Nat) (l2_2 : List (S113)) (g3_ : Nat) (A3_0 : Option Addr) (c3_0 : Nat) (l3_0 : List (S39)) (r : Bool) (w : World) (hg1_ : w.heap[g1_]? = some (.cells #[.int .i64 a1_0, .int .i64 a1_1, .int .i64 a1_2] 39 (0, 0))) (hq2_ : w.heap[q2_]? = some (.cells #[.int .i64 a2_0, .int .i64 a2_1, .slice A2_2 l2_2.length c2_2] 35 (0, 0))) (hg2_ : w.heap[g2_]? = some (.cells #[.pointer (some ⟨q2_, 0, none⟩)] 115 (0, 0))) (hr2_2 : Kd.C k113 w A2_2 l2_2.length l2_2) (hc2_2 : l2_2.length ≤ c2_2) (hg3_ : w.heap[g3_]? = some (.cells #[.slice A3_0 l3_0.length c3_0] 37 (0, 0))) (hr3_0 : Kd.C k39 w A3_0 l3_0.length l3_0) (hc3_0 : l3_0.length ≤ c3_0) (h : impl_Doc_conflicts_1.f k a0 a1_0 a1_1 a1_2 a2_0 a2_1 l2_2 l3_0 = some r) :
  Calls Tryz.prog 95 #[.int .i64 a0, .pointer (some ⟨g1_, 0, none⟩), .pointer (some ⟨g2_, 0, none⟩), .pointer (some ⟨g3_, 0, none⟩)] w fun e w' => e = .returned (.bool r) ∧ Below w.heap.size w w' := by
 have HR2_2 := Aside0.mk hr2_2
 have HC2_2 := Aside0.mk hc2_2
 clear hr2_2 hc2_2
 have HR3_0 := Aside0.mk hr3_0
 have HC3_0 := Aside0.mk hc3_0
 clear hr3_0 hc3_0
 have BK1 := Aside0.mk hg1_
 clear hg1_
 have BK82 := Aside0.mk hq2_
 clear hq2_
 have BK2 := Aside0.mk hg2_
 clear hg2_
 have BK3 := Aside0.mk hg3_
 clear hg3_
 have HB := Aside0.mk (Below.refl w.heap.size w)
 have H : (if a0 = a1_0 then (some true) else ((impl_Doc_path.f k a2_0 a2_1 l2_2 a1_1).bind fun t552 => ((slices_ContainsFunc_int_int_at_impl_Doc_conflicts_1_1.f k t552 a2_0 a2_1 l2_2 l3_0 a0 a1_0 a1_1 a1_2).bind fun t555 => (some (!t555))))) = some r := h
 clear h
 have HC5 := Aside0.mk H
 clear H
 go_enter Tryz.func95, Tryz.ntmps95
 go_upto_region 1 with (first | ((with_reducible refine gate_dst (N := 4) rfl ?_); refine Xbox 4 #[.int .i64 a0] 3 ?_; intro gb551 hg w6 hbox hb; have BK551 := Aside0.mk (hbox); have GE551 := Xge hg Xi; replace HB := Aside0.mk (below_step Xi hb); have NB1_551 := Xnb hg BK1; have NB551_1 := Xns NB1_551; replace BK1 := Xbb BK1 hb; have NB82_551 := Xnb hg BK82; have NB551_82 := Xns NB82_551; replace BK82 := Xbb BK82 hb; have NB2_551 := Xnb hg BK2; have NB551_2 := Xns NB2_551; replace BK2 := Xbb BK2 hb; have NB3_551 := Xnb hg BK3; have NB551_3 := Xns NB3_551; replace BK3 := Xbb BK3 hb; clear hb hbox hg))
 have H := HC5.out
 clear HC5
 obtain ⟨c7, H⟩ | ⟨c7, H⟩ := Xiu H
 ·have c7b0 : (a0 == a1_0) = true := beq_iff_eq.mpr c7
  have c7b1 : (a0 != a1_0) = false := bne_eq_false_iff_eq.mpr c7
  clear c7
  obtain rfl := Option.some.inj H
  have hnb8 := NB551_1.out
  have hnc8 := NB1_551.out
  have hnb9 := NB551_82.out
  have hnc9 := NB82_551.out
  have hnb10 := NB551_2.out
  have hnc10 := NB2_551.out
  have hnb11 := NB551_3.out
  have hnc11 := NB3_551.out
  have hcz12_0 := (blk_cell BK551.out 0).trans XW.i0
  obtain ⟨hcz13_0, hcz13_1, hcz13_2⟩ := Xc3 BK1
  go_wp2
  go_ret
  exact ⟨Xe, Xi⟩
 have c7b0 : (a0 == a1_0) = false := beq_eq_false_iff_ne.mpr c7
 have c7b1 : (a0 != a1_0) = true := bne_iff_ne.mpr c7
 obtain ⟨t552, A14, H⟩ := Xbi H
 try dsimp only at H
 obtain ⟨t555, A15, H⟩ := Xbi H
 try dsimp only at H
 obtain rfl := Option.some.inj H
 have hnb16 := NB551_1.out
 have hnc16 := NB1_551.out
 have hnb17 := NB551_82.out
 have hnc17 := NB82_551.out
 have hnb18 := NB551_2.out
 have hnc18 := NB2_551.out
 have hnb19 := NB551_3.out
 have hnc19 := NB3_551.out
 have hcz20_0 := (blk_cell BK551.out 0).trans XW.i0
 obtain ⟨hcz21_0, hcz21_1, hcz21_2⟩ := Xc3 BK1
 have hcz22_0 := (blk_cell BK2.out 0).trans XW.i0
 go_wp2_with (first | (go_at_call 72; (with_reducible refine (impl_Doc_path.calls k q2_ a2_0 a2_1 A2_2 c2_2 l2_2 a1_1 t552 _ ?side1 ?side2 ?side3 A14.out).mono ?_); (case side1 => exact BK82.out); (case side2 => exact Xc HR2_2); (case side3 => exact HC2_2.out); rintro e w23 ⟨v553, rfl, ho0, hb⟩; have HO554 := Aside0.mk (Kd.R_lower (Kd.R_newB ho0 (g := gb551) (o := .cells #[.int .i64 a0] 3 (0, 0)) BK551.out) (below_size Xi)); replace BK1 := Xbb BK1 hb; replace BK82 := Xbb BK82 hb; replace BK2 := Xbb BK2 hb; replace BK3 := Xbb BK3 hb; replace BK551 := Xbb BK551 hb; replace HB := Aside0.mk (below_step Xi hb); clear hb; (try clear ho0); obtain ⟨Ao24, co24, eo24⟩ := Kd.R_slice HO554.out; subst eo24) | (go_at_call 96; (with_reducible refine (slices_ContainsFunc_int_int_at_impl_Doc_conflicts_1_1.calls k _ _ t552 g2_ q2_ g3_ gb551 g1_ a2_0 a2_1 A2_2 c2_2 l2_2 A3_0 c3_0 l3_0 a0 a1_0 a1_1 a1_2 t555 _ ?side1 ?side2 ?side3 ?side4 ?side5 ?side6 ?side7 ?side8 ?side9 ?side10 ?side11 A15.out).mono ?_); (case side1 => repeat (first | exact (Kd.R_reads' HO554.out).2.2 | (with_reducible first | refine Kd.C_alloc ?_ _ | refine Kd.C_drewN ?_ _ | refine Kd.C_drew ?_))); (case side2 => exact (Kd.R_reads' HO554.out).2.1); (case side3 => exact BK82.out); (case side4 => exact BK2.out); (case side5 => exact BK3.out); (case side6 => exact BK551.out); (case side7 => exact BK1.out); (case side8 => exact Xc HR2_2); (case side9 => exact HC2_2.out); (case side10 => exact Xc HR3_0); (case side11 => exact HC3_0.out); rintro e w25 ⟨rfl, hb⟩; replace HO554 := Aside0.mk (Kd.R_below (Xq HO554) hb); replace BK1 := Xbb BK1 hb; replace BK82 := Xbb BK82 hb; replace BK2 := Xbb BK2 hb; replace BK3 := Xbb BK3 hb; replace BK551 := Xbb BK551 hb; replace HB := Aside0.mk (below_step Xi hb); clear hb))
 go_ret
 exact ⟨Xe, Xi⟩
def slices_IndexFunc_int_int_at_impl_Doc_conflicts_1.l0 : Nat → List Int → Int → Int → Int → Int → Int → List (S39) → Int → Int → List (S113) → Option (Int)
 | 0, _, _, _, _, _, _, _, _, _, _ => none
 | k + 1, x0, x7, x8, x26000, x26001, x26002, x28000, x57000, x57001, x57002 => if x8 < x7 then (if 0 ≤ x8 then (if x8 < (x0.length : Int) then ((impl_Doc_conflicts_1.f k (rd x0 x8) x26000 x26001 x26002 x57000 x57001 x57002 x28000).bind fun t557 => (if t557 = true then (some x8) else (slices_IndexFunc_int_int_at_impl_Doc_conflicts_1.l0 k x0 x7 (wrap64 (x8 + 1)) x26000 x26001 x26002 x28000 x57000 x57001 x57002))) else (none)) else (none)) else (some (-1))
def slices_IndexFunc_int_int_at_impl_Doc_conflicts_1.f (k : Nat) (l0 : List Int) (a1_0_0 : Int) (a1_0_1 : Int) (a1_0_2 : Int) (a1_1_0 : Int) (a1_1_1 : Int) (l1_1_2 : List (S113)) (l1_2_0 : List (S39)) : Option (Int) := slices_IndexFunc_int_int_at_impl_Doc_conflicts_1.l0 k l0 (l0.length : Int) 0 a1_0_0 a1_0_1 a1_0_2 l1_2_0 a1_1_0 a1_1_1 l1_1_2
theorem slices_IndexFunc_int_int_at_impl_Doc_conflicts_1.calls (k : Nat) (A0 : Option Addr) (c0 : Nat) (l0 : List Int) (g1_0_ : Nat) (g1_1_ : Nat) (q1_1_ : Nat) (g1_2_ : Nat) (a1_0_0 : Int) (a1_0_1 : Int) (a1_0_2 : Int) (a1_1_0 : Int) (a1_1_1 : Int) (A1_1_2 : Option Addr) (c1_1_2 : Nat) (l1_1_2 : List (S113)) (A1_2_0 : Option Addr) (c1_2_0 : Nat) (l1_2_0 : List (S39)) (r : Int) (w : World) (hr0 : Kd.C (Kd.int .i64) w A0 l0.length l0) (hc0 : l0.length ≤ c0) (hg1_0_ : w.heap[g1_0_]? = some (.cells #[.int .i64 a1_0_0, .int .i64 a1_0_1, .int .i64 a1_0_2] 39 (0, 0))) (hq1_1_ : w.heap[q1_1_]? = some (.cells #[.int .i64 a1_1_0, .int .i64 a1_1_1, .slice A1_1_2 l1_1_2.length c1_1_2] 35 (0, 0))) (hg1_1_ : w.heap[g1_1_]? = some (.cells #[.pointer (some ⟨q1_1_, 0, none⟩)] 115 (0, 0))) (hg1_2_ : w.heap[g1_2_]? = some (.cells #[.slice A1_2_0 l1_2_0.length c1_2_0] 37 (0, 0))) (hr1_1_2 : Kd.C k113 w A1_1_2 l1_1_2.length l1_1_2) (hc1_1_2 : l1_1_2.length ≤ c1_1_2) (hr1_2_0 : Kd.C k39 w A1_2_0 l1_2_0.length l1_2_0) (hc1_2_0 : l1_2_0.length ≤ c1_2_0) (h : slices_IndexFunc_int_int_at_impl_Doc_conflicts_1.f k l0 a1_0_0 a1_0_1 a1_0_2 a1_1_0 a1_1_1 l1_1_2 l1_2_0 = some r) :
  Calls Tryz.prog 148 #[.slice A0 l0.length c0, .func (.func 95) #[] #[.pointer (some ⟨g1_0_, 0, none⟩), .pointer (some ⟨g1_1_, 0, none⟩), .pointer (some ⟨g1_2_, 0, none⟩)]] w fun e w' => e = .returned (.int .i64 r) ∧ Below w.heap.size w w' := by
 have HR0 := Aside0.mk hr0
 have HC0 := Aside0.mk hc0
 clear hr0 hc0
 have HR1_1_2 := Aside0.mk hr1_1_2
 have HC1_1_2 := Aside0.mk hc1_1_2
 clear hr1_1_2 hc1_1_2
 have HR1_2_0 := Aside0.mk hr1_2_0
 have HC1_2_0 := Aside0.mk hc1_2_0
 clear hr1_2_0 hc1_2_0
 have BK25 := Aside0.mk hg1_0_
 clear hg1_0_
 have BK56 := Aside0.mk hq1_1_
 clear hq1_1_
 have BK26 := Aside0.mk hg1_1_
 clear hg1_1_
 have BK27 := Aside0.mk hg1_2_
 clear hg1_2_
 have HB := Aside0.mk (Below.refl w.heap.size w)
 have H : (slices_IndexFunc_int_int_at_impl_Doc_conflicts_1.l0 k l0 (l0.length : Int) 0 a1_0_0 a1_0_1 a1_0_2 l1_2_0 a1_1_0 a1_1_1 l1_1_2) = some r := h
 clear h
 have H' := Aside0.mk H
 clear H
 go_enter Tryz.func148, Tryz.ntmps148
 go_wp2
 go_loopg [8] k (fun kq v8 w' => ∃ (x8_1 : Int), v8 = .int .i64 x8_1 ∧ Aside0 (slices_IndexFunc_int_int_at_impl_Doc_conflicts_1.l0 kq l0 (l0.length : Int) x8_1 a1_0_0 a1_0_1 a1_0_2 l1_2_0 a1_1_0 a1_1_1 l1_1_2 = some r) ∧ Aside0 (kq ≤ k) ∧ Aside0 (w'.heap[g1_0_]? = some (.cells #[.int .i64 a1_0_0, .int .i64 a1_0_1, .int .i64 a1_0_2] 39 (0, 0))) ∧ Aside0 (w'.heap[q1_1_]? = some (.cells #[.int .i64 a1_1_0, .int .i64 a1_1_1, (.slice A1_1_2 l1_1_2.length c1_1_2)] 35 (0, 0))) ∧ Aside0 (w'.heap[g1_1_]? = some (.cells #[.pointer (some ⟨q1_1_, 0, none⟩)] 115 (0, 0))) ∧ Aside0 (w'.heap[g1_2_]? = some (.cells #[(.slice A1_2_0 l1_2_0.length c1_2_0)] 37 (0, 0))) ∧ Aside0 (Below w.heap.size w w'))
 case atStart => exact ⟨(0), Xr, H', Xkr, BK25, BK56, BK26, BK27, ⟨Xi⟩⟩
 clear H'
 obtain ⟨x8_1, rfl, HA, HK1, BK25, BK56, BK26, BK27, HB⟩ := hrel
 cases gk with | zero => cases HA.out | succ k1 => ?_
 have H := HA.out
 clear HA
 simp only [slices_IndexFunc_int_int_at_impl_Doc_conflicts_1.l0] at H
 obtain ⟨c3b0, H⟩ | ⟨c3b0, H⟩ := Xit H
 ·obtain ⟨c4b0, H⟩ := Xid H
  obtain ⟨c5b0, H⟩ := Xid H
  obtain ⟨t557, A6, H⟩ := Xbi H
  try dsimp only at H
  have HC7 := Aside0.mk H
  clear H
  have p556 : 0 ≤ (x8_1 : Int) := of_decide_eq_true Xa
  have q556 : x8_1 < (l0.length : Int) := of_decide_eq_true Xa
  obtain ⟨ad556, e556, hx556_0⟩ := Kd.at_int HR0.out x8_1 p556 q556
  cases e556
  replace hx556_0 := Xm HB hx556_0
  replace p556 := eq_true p556
  replace q556 := eq_true q556
  go_upto_if 16 with (first | (go_at_call 95; (with_reducible refine (impl_Doc_conflicts_1.calls k1 (rd l0 x8_1) g1_0_ a1_0_0 a1_0_1 a1_0_2 g1_1_ q1_1_ a1_1_0 a1_1_1 A1_1_2 c1_1_2 l1_1_2 g1_2_ A1_2_0 c1_2_0 l1_2_0 t557 _ ?side1 ?side2 ?side3 ?side4 ?side5 ?side6 ?side7 ?side8 A6.out).mono ?_); (case side1 => exact BK25.out); (case side2 => exact BK56.out); (case side3 => exact BK26.out); (case side4 => exact Xc HR1_1_2); (case side5 => exact HC1_1_2.out); (case side6 => exact BK27.out); (case side7 => exact Xc HR1_2_0); (case side8 => exact HC1_2_0.out); rintro e w8 ⟨rfl, hb⟩; replace BK25 := Xbb BK25 hb; replace BK56 := Xbb BK56 hb; replace BK26 := Xbb BK26 hb; replace BK27 := Xbb BK27 hb; replace HB := Aside0.mk (below_step Xi hb); clear hb))
  have H := HC7.out
  clear HC7
  by_cases c9 : t557 = true
  ·subst c9
   try rw [if_pos rfl] at H
   obtain rfl := Option.some.inj H
   go_wp2
   go_ret
   exact ⟨Xe, Xi⟩
  replace c9 := Bool.eq_false_iff.mpr c9
  subst c9
  try rw [if_neg (show ¬ (false = true) by decide)] at H
  have H' := Aside0.mk H
  clear H
  go_wp2
  go_roundg k1
  case measure => have := HK1.out; omega
  case rel => exact ⟨(wrap64 (x8_1 + 1)), Xr, H', Xk1, BK25, BK56, BK26, BK27, ⟨Xi⟩⟩
 obtain rfl := Option.some.inj H
 go_wp2
 go_ret
 exact ⟨Xe, Xi⟩
def slices_DeleteFunc_int_int_at_impl_Doc_conflicts_1.l0 : Nat → List Int → Int → Int → Int → Int → Int → List (S39) → Int → Int → List (S113) → Option (List Int)
 | 0, _, _, _, _, _, _, _, _, _, _ => none
 | k + 1, x0, x5, x6, x26000, x26001, x26002, x28000, x57000, x57001, x57002 => if x6 < (x0.length : Int) then (if 0 ≤ x6 then ((impl_Doc_conflicts_1.f k (rd x0 x6) x26000 x26001 x26002 x57000 x57001 x57002 x28000).bind fun t560 => (if t560 = true then (slices_DeleteFunc_int_int_at_impl_Doc_conflicts_1.l0 k x0 x5 (wrap64 (x6 + 1)) x26000 x26001 x26002 x28000 x57000 x57001 x57002) else (if 0 ≤ x5 then (if x5 < (x0.length : Int) then (slices_DeleteFunc_int_int_at_impl_Doc_conflicts_1.l0 k (x0.set (x5 : Int).toNat (rd x0 x6)) (wrap64 (x5 + 1)) (wrap64 (x6 + 1)) x26000 x26001 x26002 x28000 x57000 x57001 x57002) else (none)) else (none)))) else (none)) else (if 0 ≤ x5 then (if x5 ≤ (x0.length : Int) then (some ((x0.take (x5 : Int).toNat ++ List.replicate (x0.length - (x5 : Int).toNat) 0).take (x5 : Int).toNat)) else (none)) else (none))
def slices_DeleteFunc_int_int_at_impl_Doc_conflicts_1.f (k : Nat) (l0 : List Int) (a1_0_0 : Int) (a1_0_1 : Int) (a1_0_2 : Int) (a1_1_0 : Int) (a1_1_1 : Int) (l1_1_2 : List (S113)) (l1_2_0 : List (S39)) : Option (List Int) := (slices_IndexFunc_int_int_at_impl_Doc_conflicts_1.f k l0 a1_0_0 a1_0_1 a1_0_2 a1_1_0 a1_1_1 l1_1_2 l1_2_0).bind fun t558 => (if t558 = (-1) then (some l0) else (slices_DeleteFunc_int_int_at_impl_Doc_conflicts_1.l0 k l0 t558 (wrap64 (t558 + 1)) a1_0_0 a1_0_1 a1_0_2 l1_2_0 a1_1_0 a1_1_1 l1_1_2))
theorem slices_DeleteFunc_int_int_at_impl_Doc_conflicts_1.calls (k : Nat) (P0_ : Nat → Prop) (u9000_ : Value) (l0 : List Int) (g1_0_ : Nat) (g1_1_ : Nat) (q1_1_ : Nat) (g1_2_ : Nat) (a1_0_0 : Int) (a1_0_1 : Int) (a1_0_2 : Int) (a1_1_0 : Int) (a1_1_1 : Int) (A1_1_2 : Option Addr) (c1_1_2 : Nat) (l1_1_2 : List (S113)) (A1_2_0 : Option Addr) (c1_2_0 : Nat) (l1_2_0 : List (S39)) (r : List Int) (w0 w : World) (hB : Below w0.heap.size w0 w) (ho0 : Kd.R (Kd.int .i64) 3 w w0.heap.size P0_ u9000_ l0) (hg1_0_ : w.heap[g1_0_]? = some (.cells #[.int .i64 a1_0_0, .int .i64 a1_0_1, .int .i64 a1_0_2] 39 (0, 0))) (hq1_1_ : w.heap[q1_1_]? = some (.cells #[.int .i64 a1_1_0, .int .i64 a1_1_1, .slice A1_1_2 l1_1_2.length c1_1_2] 35 (0, 0))) (hg1_1_ : w.heap[g1_1_]? = some (.cells #[.pointer (some ⟨q1_1_, 0, none⟩)] 115 (0, 0))) (hg1_2_ : w.heap[g1_2_]? = some (.cells #[.slice A1_2_0 l1_2_0.length c1_2_0] 37 (0, 0))) (hr1_1_2 : ∀ W_, Kept w W_ (fun k_ => P0_ k_) → Kd.C k113 W_ A1_1_2 l1_1_2.length l1_1_2) (hc1_1_2 : l1_1_2.length ≤ c1_1_2) (hr1_2_0 : ∀ W_, Kept w W_ (fun k_ => P0_ k_) → Kd.C k39 W_ A1_2_0 l1_2_0.length l1_2_0) (hc1_2_0 : l1_2_0.length ≤ c1_2_0) (h : slices_DeleteFunc_int_int_at_impl_Doc_conflicts_1.f k l0 a1_0_0 a1_0_1 a1_0_2 a1_1_0 a1_1_1 l1_1_2 l1_2_0 = some r) :
  Calls Tryz.prog 93 #[u9000_, .func (.func 95) #[] #[.pointer (some ⟨g1_0_, 0, none⟩), .pointer (some ⟨g1_1_, 0, none⟩), .pointer (some ⟨g1_2_, 0, none⟩)]] w fun e w' => ∃ v0_ : Value, e = .returned (v0_) ∧ Kd.R (Kd.int .i64) 3 w' w0.heap.size (fun k_ => (P0_ k_ ∨ w.heap.size ≤ k_)) v0_ r ∧ Below w0.heap.size w0 w' ∧ Kept w w' (fun k_ => P0_ k_) := by
 have HO0 := Aside0.mk (show Kd.R (Kd.int .i64) 3 w w0.heap.size (fun k_ => (P0_ k_ ∨ w.heap.size ≤ k_)) u9000_ l0 from Kd.R_mono ho0 (fun k_ hk => (.inl hk)))
 have HR1_1_2 := Aside0.mk hr1_1_2
 have HC1_1_2 := Aside0.mk hc1_1_2
 clear hr1_1_2 hc1_1_2
 have HR1_2_0 := Aside0.mk hr1_2_0
 have HC1_2_0 := Aside0.mk hc1_2_0
 clear hr1_2_0 hc1_2_0
 have BK25 := Aside0.mk hg1_0_
 clear hg1_0_
 have BK56 := Aside0.mk hq1_1_
 clear hq1_1_
 have BK26 := Aside0.mk hg1_1_
 clear hg1_1_
 have BK27 := Aside0.mk hg1_2_
 clear hg1_2_
 have HK := Aside0.mk (Kept.refl w (fun k_ => P0_ k_))
 have HW0 := Aside0.mk hB.size
 have HB := Aside0.mk hB
 clear hB
 have H : ((slices_IndexFunc_int_int_at_impl_Doc_conflicts_1.f k l0 a1_0_0 a1_0_1 a1_0_2 a1_1_0 a1_1_1 l1_1_2 l1_2_0).bind fun t558 => (if t558 = (-1) then (some l0) else (slices_DeleteFunc_int_int_at_impl_Doc_conflicts_1.l0 k l0 t558 (wrap64 (t558 + 1)) a1_0_0 a1_0_1 a1_0_2 l1_2_0 a1_1_0 a1_1_1 l1_1_2))) = some r := h
 clear h
 obtain ⟨t558, A3, H⟩ := Xbi H
 try dsimp only at H
 have HC4 := Aside0.mk H
 clear H
 obtain ⟨Ao5, co5, eo5⟩ := Kd.R_slice HO0.out
 subst eo5
 go_enter Tryz.func93, Tryz.ntmps93
 go_upto_if 12 with (first | ((with_reducible refine gate_callee (f := 148) rfl ?_); refine Xgo 10 Tryz.func148 #[.slice Ao5 l0.length co5, .func (.func 95) #[] #[.pointer (some ⟨g1_0_, 0, none⟩), .pointer (some ⟨g1_1_, 0, none⟩), .pointer (some ⟨g1_2_, 0, none⟩)]] ?_; (with_reducible refine (slices_IndexFunc_int_int_at_impl_Doc_conflicts_1.calls k _ _ l0 g1_0_ g1_1_ q1_1_ g1_2_ a1_0_0 a1_0_1 a1_0_2 a1_1_0 a1_1_1 A1_1_2 c1_1_2 l1_1_2 A1_2_0 c1_2_0 l1_2_0 t558 _ ?side1 ?side2 ?side3 ?side4 ?side5 ?side6 ?side7 ?side8 ?side9 ?side10 A3.out).mono ?_); (case side1 => repeat (first | exact (Kd.R_reads' HO0.out).2.2 | (with_reducible first | refine Kd.C_alloc ?_ _ | refine Kd.C_drewN ?_ _ | refine Kd.C_drew ?_))); (case side2 => exact (Kd.R_reads' HO0.out).2.1); (case side3 => exact BK25.out); (case side4 => exact BK56.out); (case side5 => exact BK26.out); (case side6 => exact BK27.out); (case side7 => exact Kd.C_kept_now HR1_1_2.out (by repeat first | (with_reducible first | exact HK.out | apply Kept.drewN | apply Kept.drew | refine Kept.setCell ?_ (.inr GW25.out) _ | refine Kept.setCell ?_ (.inr GW56.out) _ | refine Kept.setCell ?_ (.inr GW26.out) _ | refine Kept.setCell ?_ (.inr GW27.out) _) | exact HK.out)); (case side8 => exact HC1_1_2.out); (case side9 => exact Kd.C_kept_now HR1_2_0.out (by repeat first | (with_reducible first | exact HK.out | apply Kept.drewN | apply Kept.drew | refine Kept.setCell ?_ (.inr GW25.out) _ | refine Kept.setCell ?_ (.inr GW56.out) _ | refine Kept.setCell ?_ (.inr GW26.out) _ | refine Kept.setCell ?_ (.inr GW27.out) _) | exact HK.out)); (case side10 => exact HC1_2_0.out); rintro e w6 ⟨rfl, hb⟩; refine ⟨_, rfl, ?_⟩; replace HO0 := Aside0.mk (Kd.R_below (Xq HO0) hb); replace BK25 := Xbb BK25 hb; replace BK56 := Xbb BK56 hb; replace BK26 := Xbb BK26 hb; replace BK27 := Xbb BK27 hb; replace HK := Aside0.mk (Kept.below (S := (fun k_ => P0_ k_)) (by repeat first | (with_reducible first | exact HK.out | apply Kept.drewN | apply Kept.drew | refine Kept.setCell ?_ (.inr GW25.out) _ | refine Kept.setCell ?_ (.inr GW56.out) _ | refine Kept.setCell ?_ (.inr GW26.out) _ | refine Kept.setCell ?_ (.inr GW27.out) _) | exact HK.out) hb); replace HB := Aside0.mk (below_step Xi hb); clear hb))
 have H := HC4.out
 clear HC4
 obtain ⟨c7, H⟩ | ⟨c7, H⟩ := Xiu H
 ·have c7b0 : (t558 == (-1)) = true := beq_iff_eq.mpr c7
  have c7b1 : (t558 != (-1)) = false := bne_eq_false_iff_eq.mpr c7
  clear c7
  (first | rw [c7b0] | (simp only [i64_w, i32_w]; rw [c7b0]) | skip)
  obtain rfl := Option.some.inj H
  go_wp2
  go_ret
  exact ⟨_, Xe, Xq HO0, Xi, by repeat first | (with_reducible first | exact HK.out | apply Kept.drewN | apply Kept.drew | refine Kept.setCell ?_ (.inr GW25.out) _ | refine Kept.setCell ?_ (.inr GW56.out) _ | refine Kept.setCell ?_ (.inr GW26.out) _ | refine Kept.setCell ?_ (.inr GW27.out) _) | exact HK.out⟩
 have c7b0 : (t558 == (-1)) = false := beq_eq_false_iff_ne.mpr c7
 have c7b1 : (t558 != (-1)) = true := bne_iff_ne.mpr c7
 (first | rw [c7b0] | (simp only [i64_w, i32_w]; rw [c7b0]) | skip)
 have H' := Aside0.mk H
 clear H
 go_wp2
 go_loopg [5, 6] k (fun kq v5 v6 w' => ∃ (x0_1 : List Int) (x5_1 : Int) (x6_1 : Int), v5 = .int .i64 x5_1 ∧ v6 = .int .i64 x6_1 ∧ Aside0 (slices_DeleteFunc_int_int_at_impl_Doc_conflicts_1.l0 kq x0_1 x5_1 x6_1 a1_0_0 a1_0_1 a1_0_2 l1_2_0 a1_1_0 a1_1_1 l1_1_2 = some r) ∧ Aside0 (kq ≤ k) ∧ Aside0 (Kd.R (Kd.int .i64) 3 w' w0.heap.size (fun k_ => (P0_ k_ ∨ w.heap.size ≤ k_)) (.slice Ao5 l0.length co5) x0_1) ∧ Aside0 (w'.heap[g1_0_]? = some (.cells #[.int .i64 a1_0_0, .int .i64 a1_0_1, .int .i64 a1_0_2] 39 (0, 0))) ∧ Aside0 (w'.heap[q1_1_]? = some (.cells #[.int .i64 a1_1_0, .int .i64 a1_1_1, (.slice A1_1_2 l1_1_2.length c1_1_2)] 35 (0, 0))) ∧ Aside0 (w'.heap[g1_1_]? = some (.cells #[.pointer (some ⟨q1_1_, 0, none⟩)] 115 (0, 0))) ∧ Aside0 (w'.heap[g1_2_]? = some (.cells #[(.slice A1_2_0 l1_2_0.length c1_2_0)] 37 (0, 0))) ∧ Aside0 (Kept w w' (fun k_ => P0_ k_)) ∧ Aside0 (Below w0.heap.size w0 w'))
 case atStart => exact ⟨(l0), (t558), (wrap64 (t558 + 1)), Xr, Xr, H', Xkr, (Xp' HO0), BK25, BK56, BK26, BK27, ⟨by repeat first | (with_reducible first | exact HK.out | apply Kept.drewN | apply Kept.drew | refine Kept.setCell ?_ (.inr GW25.out) _ | refine Kept.setCell ?_ (.inr GW56.out) _ | refine Kept.setCell ?_ (.inr GW26.out) _ | refine Kept.setCell ?_ (.inr GW27.out) _) | exact HK.out⟩, ⟨Xi⟩⟩
 clear H'
 (try clear c7); (try clear c7b0); (try clear c7b1)
 obtain ⟨x0_1, x5_1, x6_1, rfl, rfl, HA, HK1, HO_0, BK25, BK56, BK26, BK27, HK, HB⟩ := hrel
 have hl0_1 := (Kd.R_reads' HO_0.out).1
 rw [hl0_1] at HO_0
 (try simp only [hl0_1])
 (try simp only [hl0_1] at BK25)
 (try simp only [hl0_1] at BK56)
 (try simp only [hl0_1] at BK26)
 (try simp only [hl0_1] at BK27)
 cases gk with | zero => cases HA.out | succ k1 => ?_
 have H := HA.out
 clear HA
 simp only [slices_DeleteFunc_int_int_at_impl_Doc_conflicts_1.l0] at H
 obtain ⟨c8b0, H⟩ | ⟨c8b0, H⟩ := Xit H
 ·obtain ⟨c9b0, H⟩ := Xid H
  obtain ⟨t560, A10, H⟩ := Xbi H
  try dsimp only at H
  have HC11 := Aside0.mk H
  clear H
  have p559 : 0 ≤ (x6_1 : Int) := of_decide_eq_true Xa
  have q559 : x6_1 < (x0_1.length : Int) := of_decide_eq_true Xa
  obtain ⟨ad559, e559, hx559_0⟩ := Kd.at_int (Kd.R_reads' HO_0.out).2.2 x6_1 p559 q559
  cases e559
  replace p559 := eq_true p559
  replace q559 := eq_true q559
  go_upto_if 29 with (first | (go_at_call 95; (with_reducible refine (impl_Doc_conflicts_1.calls k1 (rd x0_1 x6_1) g1_0_ a1_0_0 a1_0_1 a1_0_2 g1_1_ q1_1_ a1_1_0 a1_1_1 A1_1_2 c1_1_2 l1_1_2 g1_2_ A1_2_0 c1_2_0 l1_2_0 t560 _ ?side1 ?side2 ?side3 ?side4 ?side5 ?side6 ?side7 ?side8 A10.out).mono ?_); (case side1 => exact BK25.out); (case side2 => exact BK56.out); (case side3 => exact BK26.out); (case side4 => exact Kd.C_kept_now HR1_1_2.out (by repeat first | (with_reducible first | exact HK.out | apply Kept.drewN | apply Kept.drew | refine Kept.setCell ?_ (.inr GW25.out) _ | refine Kept.setCell ?_ (.inr GW56.out) _ | refine Kept.setCell ?_ (.inr GW26.out) _ | refine Kept.setCell ?_ (.inr GW27.out) _) | exact HK.out)); (case side5 => exact HC1_1_2.out); (case side6 => exact BK27.out); (case side7 => exact Kd.C_kept_now HR1_2_0.out (by repeat first | (with_reducible first | exact HK.out | apply Kept.drewN | apply Kept.drew | refine Kept.setCell ?_ (.inr GW25.out) _ | refine Kept.setCell ?_ (.inr GW56.out) _ | refine Kept.setCell ?_ (.inr GW26.out) _ | refine Kept.setCell ?_ (.inr GW27.out) _) | exact HK.out)); (case side8 => exact HC1_2_0.out); rintro e w12 ⟨rfl, hb⟩; replace HO_0 := Aside0.mk (Kd.R_below (Xq HO_0) hb); replace BK25 := Xbb BK25 hb; replace BK56 := Xbb BK56 hb; replace BK26 := Xbb BK26 hb; replace BK27 := Xbb BK27 hb; replace HK := Aside0.mk (Kept.below (S := (fun k_ => P0_ k_)) (by repeat first | (with_reducible first | exact HK.out | apply Kept.drewN | apply Kept.drew | refine Kept.setCell ?_ (.inr GW25.out) _ | refine Kept.setCell ?_ (.inr GW56.out) _ | refine Kept.setCell ?_ (.inr GW26.out) _ | refine Kept.setCell ?_ (.inr GW27.out) _) | exact HK.out) hb); replace HB := Aside0.mk (below_step Xi hb); clear hb))
  have H := HC11.out
  clear HC11
  by_cases c13 : t560 = true
  ·subst c13
   try rw [if_pos rfl] at H
   have H' := Aside0.mk H
   clear H
   go_wp2
   (try simp only [← hl0_1])
   go_roundg k1
   case measure => have := HK1.out; omega
   case rel => exact ⟨(x0_1), (x5_1), (wrap64 (x6_1 + 1)), Xr, Xr, H', Xk1, ⟨by (try simp only [hl0_1]); (with_reducible repeat (first | apply Kd.R_alloc | apply Kd.R_drewN | apply Kd.R_drew)); exact HO_0.out⟩, ⟨by (try simp only [hl0_1]); exact BK25.out⟩, ⟨by (try simp only [hl0_1]); exact BK56.out⟩, ⟨by (try simp only [hl0_1]); exact BK26.out⟩, ⟨by (try simp only [hl0_1]); exact BK27.out⟩, ⟨by repeat first | (with_reducible first | exact HK.out | apply Kept.drewN | apply Kept.drew | refine Kept.setCell ?_ (.inr GW25.out) _ | refine Kept.setCell ?_ (.inr GW56.out) _ | refine Kept.setCell ?_ (.inr GW26.out) _ | refine Kept.setCell ?_ (.inr GW27.out) _) | exact HK.out⟩, ⟨Xi⟩⟩
  replace c13 := Bool.eq_false_iff.mpr c13
  subst c13
  try rw [if_neg (show ¬ (false = true) by decide)] at H
  obtain ⟨c14b0, H⟩ := Xid H
  (first | rw [c14b0] | (simp only [i64_w, i32_w]; rw [c14b0]) | skip)
  obtain ⟨c15b0, H⟩ := Xid H
  obtain ⟨y561, hy561⟩ : ∃ y_ : List Int, y_ = (x0_1.set (x5_1 : Int).toNat (rd x0_1 x6_1)) := ⟨_, rfl⟩
  replace H : (slices_DeleteFunc_int_int_at_impl_Doc_conflicts_1.l0 k1 y561 (wrap64 (x5_1 + 1)) (wrap64 (x6_1 + 1)) a1_0_0 a1_0_1 a1_0_2 l1_2_0 a1_1_0 a1_1_1 l1_1_2) = some r := by first | (rw [hy561]; with_reducible exact H) | (have H2_ := (Option.bind_some _ _).symm.trans H; rw [hy561]; with_reducible exact H2_) | (have H2_ := (Option.bind_some _ _).symm.trans H; with_reducible exact H2_) | with_reducible exact H | (rw [hy561]; exact H) | exact H
  have Ny561 := Aside0.mk hy561
  clear hy561
  have H' := Aside0.mk H
  clear H
  have p16 : 0 ≤ (x5_1 : Int) := of_decide_eq_true Xa
  have q16 : (x5_1 : Int) < ((x0_1.length : Int) : Int) := of_decide_eq_true Xa
  obtain ⟨go16, co16, eo16, gb16, gl16, cl16, HG16⟩ := Kd.R_form HO_0.out (by omega)
  (first | cases eo16 | (injection eo16 with ea_ en_ ec_; (first | subst ea_ | (injection ea_ with ea_; subst ea_)); subst ec_; clear en_))
  have GB16 := Aside0.mk gb16
  have GG16 := Aside0.mk HG16
  clear gb16 gl16 HG16
  have HMgo16 := Aside0.mk (show (P0_ go16 ∨ w.heap.size ≤ go16) from (HO_0.out.1 _ rfl))
  (first | simp only [add_plain] at hx559_0 | skip)
  obtain ⟨hx16_0, hf16_0⟩ := Kd.R_celln 0 HO_0.out (x5_1 : Int) p16 q16
  replace p16 := eq_true p16
  replace q16 := eq_true q16
  have HP17 := Kd.R_putg HO_0.out (x5_1 : Int) (rd x0_1 x6_1)
  go_wp2_with (first | ((with_reducible refine gate_store (t := 3) (p := 33) rfl ?_); refine store_event (t := 3) (p := 33) (v := ?vo_w18) (w1 := (w12.setCell ⟨go16, (x5_1 : Int).toNat, none⟩ (.int .i64 (rd x0_1 x6_1)))) ?hg ?ho ?hn ?hr ?_; (case ho => rfl); (case hg => rfl); (case hn => rfl); (case hr => first | (go_simp; done) | (go_simp; rfl)); intro w18 hw; have hg : w12.grownBy w18 (some go16) := (by rw [hw]; exact HP17.2); have hp_ : Kd.R (Kd.int .i64) 3 w18 w0.heap.size (fun k_ => (P0_ k_ ∨ w.heap.size ≤ k_)) (.slice (some ⟨go16, 0, none⟩) x0_1.length co5) y561 := (by rw [hw, Ny561.out]; exact HP17.1); clear HP17; replace BK25 := Aside0.mk (blk_grown (g := g1_0_) (o := .cells #[.int .i64 a1_0_0, .int .i64 a1_0_1, .int .i64 a1_0_2] 39 (0, 0)) BK25.out hg (Kd.R_ne HO_0.out BK25.out (by decide))); replace BK56 := Aside0.mk (blk_grown (g := q1_1_) (o := .cells #[.int .i64 a1_1_0, .int .i64 a1_1_1, .slice A1_1_2 l1_1_2.length c1_1_2] 35 (0, 0)) BK56.out hg (Kd.R_ne HO_0.out BK56.out (by decide))); replace BK26 := Aside0.mk (blk_grown (g := g1_1_) (o := .cells #[.pointer (some ⟨q1_1_, 0, none⟩)] 115 (0, 0)) BK26.out hg (Kd.R_ne HO_0.out BK26.out (by decide))); replace BK27 := Aside0.mk (blk_grown (g := g1_2_) (o := .cells #[.slice A1_2_0 l1_2_0.length c1_2_0] 37 (0, 0)) BK27.out hg (Kd.R_ne HO_0.out BK27.out (by decide))); replace HB := Aside0.mk ((by rw [hw]; exact below_set (HB.out) GB16.out : Below w0.heap.size w0 w18)); replace HK := Aside0.mk (Kept.of_grown (S := (fun k_ => P0_ k_)) hg (by repeat first | (with_reducible first | exact HK.out | apply Kept.drewN | apply Kept.drew | refine Kept.setCell ?_ (.inr GW25.out) _ | refine Kept.setCell ?_ (.inr GW56.out) _ | refine Kept.setCell ?_ (.inr GW26.out) _ | refine Kept.setCell ?_ (.inr GW27.out) _) | exact HK.out) (fun k_ e_ => (HO_0.out.1 k_ e_))); replace HO_0 := Aside0.mk (hp_); clear hg hw hp_))
  (try simp only [← hl0_1])
  go_roundg k1
  case measure => have := HK1.out; omega
  case rel => exact ⟨(y561), (wrap64 (x5_1 + 1)), (wrap64 (x6_1 + 1)), Xr, Xr, H', Xk1, ⟨by (try simp only [hl0_1]); (with_reducible repeat (first | apply Kd.R_alloc | apply Kd.R_drewN | apply Kd.R_drew)); exact HO_0.out⟩, ⟨by (try simp only [hl0_1]); exact BK25.out⟩, ⟨by (try simp only [hl0_1]); exact BK56.out⟩, ⟨by (try simp only [hl0_1]); exact BK26.out⟩, ⟨by (try simp only [hl0_1]); exact BK27.out⟩, ⟨by repeat first | (with_reducible first | exact HK.out | apply Kept.drewN | apply Kept.drew | refine Kept.setCell ?_ (.inr GW25.out) _ | refine Kept.setCell ?_ (.inr GW56.out) _ | refine Kept.setCell ?_ (.inr GW26.out) _ | refine Kept.setCell ?_ (.inr GW27.out) _) | exact HK.out⟩, ⟨Xi⟩⟩
 obtain ⟨c19, H⟩ | ⟨c19, H⟩ := Xiu H
 ·have c19b0 := eq_true c19
  have c19b1 : decide (0 ≤ x5_1) = true := decide_eq_true c19
  clear c19
  obtain ⟨c20, H⟩ := Xif H
  have c20b0 := eq_true c20
  have c20b1 : decide (x5_1 ≤ (x0_1.length : Int)) = true := decide_eq_true c20
  clear c20
  obtain ⟨y562, hy562⟩ : ∃ y_ : List Int, y_ = (x0_1.drop (x5_1 : Int).toNat) := ⟨_, rfl⟩
  replace H : (some ((x0_1.take (x5_1 : Int).toNat ++ List.replicate (x0_1.length - (x5_1 : Int).toNat) 0).take (x5_1 : Int).toNat)) = some r := by first | (rw [hy562]; with_reducible exact H) | (have H2_ := (Option.bind_some _ _).symm.trans H; rw [hy562]; with_reducible exact H2_) | (have H2_ := (Option.bind_some _ _).symm.trans H; with_reducible exact H2_) | with_reducible exact H | (rw [hy562]; exact H) | exact H
  have Ny562 := Aside0.mk hy562
  clear hy562
  obtain ⟨y566, hy566⟩ : ∃ y_ : List Int, y_ = (x0_1.take (x5_1 : Int).toNat ++ List.replicate (x0_1.length - (x5_1 : Int).toNat) 0) := ⟨_, rfl⟩
  replace H : (some (y566.take (x5_1 : Int).toNat)) = some r := by first | (rw [hy566]; with_reducible exact H) | (have H2_ := (Option.bind_some _ _).symm.trans H; rw [hy566]; with_reducible exact H2_) | (have H2_ := (Option.bind_some _ _).symm.trans H; with_reducible exact H2_) | with_reducible exact H | (rw [hy566]; exact H) | exact H
  have Ny566 := Aside0.mk hy566
  clear hy566
  have c21b0 := eq_true (of_decide_eq_true Xa : x5_1 ≤ (x0_1.length : Int))
  obtain ⟨y567, hy567⟩ : ∃ y_ : List Int, y_ = (y566.take (x5_1 : Int).toNat) := ⟨_, rfl⟩
  replace H : (some y567) = some r := by first | (rw [hy567]; with_reducible exact H) | (have H2_ := (Option.bind_some _ _).symm.trans H; rw [hy567]; with_reducible exact H2_) | (have H2_ := (Option.bind_some _ _).symm.trans H; with_reducible exact H2_) | with_reducible exact H | (rw [hy567]; exact H) | exact H
  have Ny567 := Aside0.mk hy567
  clear hy567
  obtain rfl := Option.some.inj H
  have q22 : (x5_1 : Int) ≤ ((x0_1.length : Int) : Int) := of_decide_eq_true Xa
  obtain ⟨i022, hi022, _, hsz22, _⟩ := info_parts info3
  have hroom22 : x0_1.length ≤ co5 := (Kd.R_reads' HO_0.out).2.1
  have hC22 : Kd.C (Kd.int .i64) _ Ao5 x0_1.length x0_1 := (Kd.R_reads' HO_0.out).2.2
  have q022 : (0 : Int) ≤ (x5_1 : Int) := of_decide_eq_true Xa
  have hcut22 := cut_from (P := Tryz.prog) 30 3 .i64 Tryz.underlying30 hi022 1 hsz22 Ao5 x0_1.length co5 x5_1 q022 q22
  have hr22 := Kd.C_drop (m := (x5_1 : Int).toNat) (c := co5) hC22 (by omega) hroom22
  obtain ⟨A22, hA22⟩ : ∃ A1, A1 = (if co5 = (x5_1 : Int).toNat then Ao5 else (Ao5 : Option Addr).map (·.add ((x5_1 : Int).toNat * 1))) := ⟨_, rfl⟩
  obtain ⟨c22, hc22⟩ : ∃ c1, c1 = co5 - (x5_1 : Int).toNat := ⟨_, rfl⟩
  have hy22 : y562.length = x0_1.length - (x5_1 : Int).toNat := (by rw [Ny562.out, List.length_drop] <;> omega)
  rw [show (x0_1).drop (x5_1 : Int).toNat = y562 from Ny562.out.symm] at hr22
  replace hr22 : Kd.C (Kd.int .i64) _ A22 y562.length y562 := (by rw [hA22]; exact hr22)
  rw [← hy22, ← hA22, ← hc22] at hcut22
  have HR565 := Aside0.mk hr22
  have HC565 := Aside0.mk (show y562.length ≤ c22 from by rw [hy22, hc22]; exact Nat.sub_le_sub_right hroom22 _)
  clear hr22 hC22 hroom22 hi022 hsz22 hc22
  have KY22 := Aside0.mk hy22
  have KA22 := Aside0.mk hA22
  clear hy22 hA22
  have KL22 := Aside0.mk (show (x5_1 : Int).toNat ≤ x0_1.length from by omega)
  replace q22 := eq_true q22
  go_wp2_with (first | ((with_reducible refine gate_builtin (b := .clear) (xs := #[.tmp 38]) rfl ?_); refine XW.R_clear (Kd.int .i64) (w0 := w0) w0.heap.size rfl (.tmp 38) 30 3 rfl Tryz.underlying30 (.int .i64 0) 8 info3 rfl (by decide) 0 (fun _ => rfl) (A0 := Ao5) (n := x0_1.length) (c := co5) (N := (x5_1 : Int).toNat) rfl ?hA ?hm (Xq HO_0) ?hN Xi (below_size Xi) ?_; (case hA => exact KA22.out); (case hm => exact KY22.out); (case hN => exact KL22.out); intro w23 ho hb hg; rw [← Ny566.out] at ho; replace BK25 := Aside0.mk (blk_grown (g := g1_0_) (o := .cells #[.int .i64 a1_0_0, .int .i64 a1_0_1, .int .i64 a1_0_2] 39 (0, 0)) BK25.out hg (Kd.R_ne HO_0.out BK25.out (by decide))); replace BK56 := Aside0.mk (blk_grown (g := q1_1_) (o := .cells #[.int .i64 a1_1_0, .int .i64 a1_1_1, .slice A1_1_2 l1_1_2.length c1_1_2] 35 (0, 0)) BK56.out hg (Kd.R_ne HO_0.out BK56.out (by decide))); replace BK26 := Aside0.mk (blk_grown (g := g1_1_) (o := .cells #[.pointer (some ⟨q1_1_, 0, none⟩)] 115 (0, 0)) BK26.out hg (Kd.R_ne HO_0.out BK26.out (by decide))); replace BK27 := Aside0.mk (blk_grown (g := g1_2_) (o := .cells #[.slice A1_2_0 l1_2_0.length c1_2_0] 37 (0, 0)) BK27.out hg (Kd.R_ne HO_0.out BK27.out (by decide))); replace HB := Aside0.mk (hb); replace HK := Aside0.mk (Kept.of_grown (S := (fun k_ => P0_ k_)) hg (by repeat first | (with_reducible first | exact HK.out | apply Kept.drewN | apply Kept.drew | refine Kept.setCell ?_ (.inr GW25.out) _ | refine Kept.setCell ?_ (.inr GW56.out) _ | refine Kept.setCell ?_ (.inr GW26.out) _ | refine Kept.setCell ?_ (.inr GW27.out) _) | exact HK.out) (fun k_ e_ => (HO_0.out.1 k_ e_))); replace HO_0 := Aside0.mk (ho); clear ho hb hg; have q24 : (x5_1 : Int) ≤ ((x0_1.length : Int) : Int) := of_decide_eq_true Xa; obtain ⟨i024, hi024, _, hsz24, _⟩ := info_parts info3; have hcut24 := cut_to (P := Tryz.prog) 30 3 .i64 Tryz.underlying30 hi024 Ao5 x0_1.length co5 x5_1 (of_decide_eq_true Xa) q24 (Kd.R_reads' HO_0.out).2.1; have hr24 := Kd.R_take (m := (x5_1 : Int).toNat) HO_0.out (by have hlx_ := (Kd.R_reads' HO_0.out).1; omega); have hy24 : y567.length = (x5_1 : Int).toNat := (by have hlx_ := (Kd.R_reads' HO_0.out).1; rw [Ny567.out, List.length_take]; omega); rw [← Ny567.out] at hr24; rw [← hy24] at hr24 hcut24; clear hy24 hi024 hsz24 HO_0; have HO569 := Aside0.mk hr24; clear hr24; replace q24 := eq_true q24))
  go_ret
  exact ⟨_, Xe, Xq HO569, Xi, by repeat first | (with_reducible first | exact HK.out | apply Kept.drewN | apply Kept.drew | refine Kept.setCell ?_ (.inr GW25.out) _ | refine Kept.setCell ?_ (.inr GW56.out) _ | refine Kept.setCell ?_ (.inr GW26.out) _ | refine Kept.setCell ?_ (.inr GW27.out) _) | exact HK.out⟩
 exact absurd H (by simp)
def impl_Doc_conflicts.f (k : Nat) (a0_0 : Int) (a0_1 : Int) (l0_2 : List (S113)) (l1 : List (S39)) (a2_0 : Int) (a2_1 : Int) (a2_2 : Int) : Option (List Int) := (impl_sessionsOf.f k l1).bind fun t573 => ((slices_DeleteFunc_int_int_at_impl_Doc_conflicts_1.f k t573 a2_0 a2_1 a2_2 a0_0 a0_1 l0_2 l1).bind fun t576 => (some t576))
theorem impl_Doc_conflicts.calls (k : Nat) (g0_ : Nat) (a0_0 : Int) (a0_1 : Int) (A0_2 : Option Addr) (c0_2 : Nat) (l0_2 : List (S113)) (A1 : Option Addr) (c1 : Nat) (l1 : List (S39)) (a2_0 : Int) (a2_1 : Int) (a2_2 : Int) (r : List Int) (w : World) (hg0_ : w.heap[g0_]? = some (.cells #[.int .i64 a0_0, .int .i64 a0_1, .slice A0_2 l0_2.length c0_2] 35 (0, 0))) (hr0_2 : Kd.C k113 w A0_2 l0_2.length l0_2) (hc0_2 : l0_2.length ≤ c0_2) (hr1 : Kd.C k39 w A1 l1.length l1) (hc1 : l1.length ≤ c1) (h : impl_Doc_conflicts.f k a0_0 a0_1 l0_2 l1 a2_0 a2_1 a2_2 = some r) :
  Calls Tryz.prog 50 #[.pointer (some ⟨g0_, 0, none⟩), .slice A1 l1.length c1, .agg #[.int .i64 a2_0, .int .i64 a2_1, .int .i64 a2_2]] w fun e w' => ∃ v0_ : Value, e = .returned (v0_) ∧ Kd.R (Kd.int .i64) 3 w' w.heap.size (fun _ => True) v0_ r ∧ Below w.heap.size w w' := by
 have hu39 := Tryz.underlying39
 have HR0_2 := Aside0.mk hr0_2
 have HC0_2 := Aside0.mk hc0_2
 clear hr0_2 hc0_2
 have HR1 := Aside0.mk hr1
 have HC1 := Aside0.mk hc1
 clear hr1 hc1
 have BK0 := Aside0.mk hg0_
 clear hg0_
 have HB := Aside0.mk (Below.refl w.heap.size w)
 have H : ((impl_sessionsOf.f k l1).bind fun t573 => ((slices_DeleteFunc_int_int_at_impl_Doc_conflicts_1.f k t573 a2_0 a2_1 a2_2 a0_0 a0_1 l0_2 l1).bind fun t576 => (some t576))) = some r := h
 clear h
 obtain ⟨t573, A4, H⟩ := Xbi H
 try dsimp only at H
 obtain ⟨t576, A5, H⟩ := Xbi H
 try dsimp only at H
 obtain rfl := Option.some.inj H
 go_enter Tryz.func50, Tryz.ntmps50
 go_wp2_with (first | ((with_reducible refine gate_dst (N := 3) rfl ?_); refine Xbox 3 #[.pointer (some ⟨g0_, 0, none⟩)] 115 ?_; intro gb570 hg w6 hbox hb; have BK570 := Aside0.mk (hbox); have GE570 := Xge hg Xi; replace HB := Aside0.mk (below_step Xi hb); have NB0_570 := Xnb hg BK0; have NB570_0 := Xns NB0_570; replace BK0 := Xbb BK0 hb; clear hb hbox hg) | ((with_reducible refine gate_dst (N := 4) rfl ?_); refine Xbox 4 #[.slice A1 l1.length c1] 37 ?_; intro gb571 hg w7 hbox hb; have BK571 := Aside0.mk (hbox); have GE571 := Xge hg Xi; replace HB := Aside0.mk (below_step Xi hb); have NB0_571 := Xnb hg BK0; have NB571_0 := Xns NB0_571; replace BK0 := Xbb BK0 hb; have NB570_571 := Xnb hg BK570; have NB571_570 := Xns NB570_571; replace BK570 := Xbb BK570 hb; clear hb hbox hg) | ((with_reducible refine gate_dst (N := 5) rfl ?_); refine Xbox 5 #[.int .i64 a2_0, .int .i64 a2_1, .int .i64 a2_2] 39 ?_; intro gb572 hg w8 hbox hb; have BK572 := Aside0.mk (hbox); have GE572 := Xge hg Xi; replace HB := Aside0.mk (below_step Xi hb); have NB0_572 := Xnb hg BK0; have NB572_0 := Xns NB0_572; replace BK0 := Xbb BK0 hb; have NB570_572 := Xnb hg BK570; have NB572_570 := Xns NB570_572; replace BK570 := Xbb BK570 hb; have NB571_572 := Xnb hg BK571; have NB572_571 := Xns NB571_572; replace BK571 := Xbb BK571 hb; clear hb hbox hg; have hnb9 := NB571_0.out; have hnc9 := NB0_571.out; have hnb10 := NB571_570.out; have hnc10 := NB570_571.out; have hnb11 := NB571_572.out; have hnc11 := NB572_571.out; have hcz12_0 := (blk_cell BK571.out 0).trans XW.i0) | ((with_reducible refine gate_callee (f := 94) rfl ?_); refine Xgo 8 Tryz.func94 #[.slice A1 l1.length c1] ?_; (with_reducible refine (impl_sessionsOf.calls k _ _ l1 t573 _ ?side1 ?side2 A4.out).mono ?_); (case side1 => exact Xc HR1); (case side2 => exact HC1.out); rintro e w13 ⟨v574, rfl, ho0, hb⟩; refine ⟨_, rfl, ?_⟩; have HO575 := Aside0.mk (Kd.R_lower ho0 (below_size Xi)); replace BK0 := Xbb BK0 hb; replace BK570 := Xbb BK570 hb; replace BK571 := Xbb BK571 hb; replace BK572 := Xbb BK572 hb; replace HB := Aside0.mk (below_step Xi hb); clear hb; (try clear ho0); obtain ⟨Ao14, co14, eo14⟩ := Kd.R_slice HO575.out; subst eo14) | ((with_reducible refine gate_callee (f := 93) rfl ?_); refine Xgo 10 Tryz.func93 #[.slice Ao14 t573.length co14, .func (.func 95) #[] #[.pointer (some ⟨gb572, 0, none⟩), .pointer (some ⟨gb570, 0, none⟩), .pointer (some ⟨gb571, 0, none⟩)]] ?_; (with_reducible refine (slices_DeleteFunc_int_int_at_impl_Doc_conflicts_1.calls k (fun k_ => some k_ = (.slice Ao14 t573.length co14 : Value).ownBlock) (.slice Ao14 t573.length co14) t573 gb572 gb570 g0_ gb571 a2_0 a2_1 a2_2 a0_0 a0_1 A0_2 c0_2 l0_2 A1 c1 l1 t576 w _ ?side1 ?side2 ?side3 ?side4 ?side5 ?side6 ?side7 ?side8 ?side9 ?side10 A5.out).mono ?_); (case side1 => exact Xi); (case side2 => exact Kd.R_tight rfl HO575.out); (case side3 => exact BK572.out); (case side4 => exact BK0.out); (case side5 => exact BK570.out); (case side6 => exact BK571.out); (case side7 => exact Kd.C_kept_came k113_heap HR0_2.out Xi (fun k_ hs_ => (fun e_ => Kd.R_base HO575.out k_ e_.symm) hs_)); (case side8 => exact HC0_2.out); (case side9 => exact Kd.C_kept_came k39_heap HR1.out Xi (fun k_ hs_ => (fun e_ => Kd.R_base HO575.out k_ e_.symm) hs_)); (case side10 => exact HC1.out); rintro e w15 ⟨v577, rfl, ho0, hb, hkp⟩; refine ⟨_, rfl, ?_⟩; replace BK0 := Aside0.mk (blk_kept BK0.out hkp (fun hs_ => (fun e_ => (Kd.R_ne HO575.out BK0.out (by decide)) e_) hs_)); replace BK570 := Aside0.mk (blk_kept BK570.out hkp (fun hs_ => (fun e_ => (Kd.R_ne HO575.out BK570.out (by decide)) e_) hs_)); replace BK571 := Aside0.mk (blk_kept BK571.out hkp (fun hs_ => (fun e_ => (Kd.R_ne HO575.out BK571.out (by decide)) e_) hs_)); replace BK572 := Aside0.mk (blk_kept BK572.out hkp (fun hs_ => (fun e_ => (Kd.R_ne HO575.out BK572.out (by decide)) e_) hs_)); have HO578 := Aside0.mk (Kd.R_mono (ok' := fun k_ => True) ho0 (fun k_ hk_ => trivial)); replace HB := Aside0.mk (hb); clear HO575; (try clear hb); (try clear hkp); (try clear ho0)))
 go_ret
 exact ⟨_, Xe, Xq HO578, Xi⟩
def impl_Doc_rival_1.f (k : Nat) (a0 : Int) (l1_0 : List Int) (a2_0 : Int) (a2_1 : Int) (l2_2 : List (S113)) (l3_0 : List (S39)) (a4_0 : Int) (a4_1 : Int) (a4_2 : Int) (a5_0 : Int) (a5_1 : Int) (a5_2 : Int) : Option (Bool) := (slices_Contains_int_int.f k l1_0 a0).bind fun t591 => (if t591 = true then ((impl_Doc_wanted.f k a2_0 a2_1 l2_2 l3_0 a4_0 a4_1 a4_2 a0).bind fun t592 => ((impl_Doc_wanted.f k a2_0 a2_1 l2_2 l3_0 a5_0 a5_1 a5_2 a0).bind fun t593 => ((impl_compatible.f t592 t593).bind fun t594 => (some (!t594))))) else (some false))
def impl_Doc_rival_1.T1 : Bool × List (List Nat × List Nat) := (true, [([], []), ([], []), ([0, 1], [0, 1]), ([2, 2], [2]), ([3], [3]), ([3], [3]), ([3], [3]), ([3], [3]), ([4, 5, 6, 7, 3, 3], [3, 4, 5, 6, 7]), ([3], [3]), ([3], [3]), ([3], [3]), ([3], [3]), ([9, 10, 11, 12, 8, 3], [3, 9, 10, 11, 12]), ([8, 13, 13, 3], [3, 8, 13]), ([14, 3], [3, 14]), ([3, 15], [3, 15]), ([16, 14, 0, 1, 2, 3, 4, 5, 6, 7, 8, 9, 10, 11, 12, 13, 14, 15, 16], [16])])
def impl_Doc_rival_1.B1 : List Nat := [0, 0, 3, 7, 15, 15, 15, 15, 255, 15, 15, 15, 15, 8191, 16383, 32767, 65535, 131071]
theorem impl_Doc_rival_1.tab1 : rtab .any (opsOf Tryz.f150 1) = impl_Doc_rival_1.T1 := by kernel_rfl
theorem impl_Doc_rival_1.bits1 : waitsOk impl_Doc_rival_1.T1.2 impl_Doc_rival_1.B1 = true := by kernel_rfl
theorem impl_Doc_rival_1.calls (k : Nat) (a0 : Int) (g1_ : Nat) (A1_0 : Option Addr) (c1_0 : Nat) (l1_0 : List Int) (g2_ : Nat) (q2_ : Nat) (a2_0 : Int) (a2_1 : Int) (A2_2 : Option Addr) (c2_2 : Nat) (l2_2 : List (S113)) (g3_ : Nat) (A3_0 : Option Addr) (c3_0 : Nat) (l3_0 : List (S39)) (g4_ : Nat) (a4_0 : Int) (a4_1 : Int) (a4_2 : Int) (g5_ : Nat) (a5_0 : Int) (a5_1 : Int) (a5_2 : Int) (r : Bool) (w : World) (hg1_ : w.heap[g1_]? = some (.cells #[.slice A1_0 l1_0.length c1_0] 30 (0, 0))) (hr1_0 : Kd.C (Kd.int .i64) w A1_0 l1_0.length l1_0) (hc1_0 : l1_0.length ≤ c1_0) (hq2_ : w.heap[q2_]? = some (.cells #[.int .i64 a2_0, .int .i64 a2_1, .slice A2_2 l2_2.length c2_2] 35 (0, 0))) (hg2_ : w.heap[g2_]? = some (.cells #[.pointer (some ⟨q2_, 0, none⟩)] 115 (0, 0))) (hr2_2 : Kd.C k113 w A2_2 l2_2.length l2_2) (hc2_2 : l2_2.length ≤ c2_2) (hg3_ : w.heap[g3_]? = some (.cells #[.slice A3_0 l3_0.length c3_0] 37 (0, 0))) (hr3_0 : Kd.C k39 w A3_0 l3_0.length l3_0) (hc3_0 : l3_0.length ≤ c3_0) (hg4_ : w.heap[g4_]? = some (.cells #[.int .i64 a4_0, .int .i64 a4_1, .int .i64 a4_2] 39 (0, 0))) (hg5_ : w.heap[g5_]? = some (.cells #[.int .i64 a5_0, .int .i64 a5_1, .int .i64 a5_2] 39 (0, 0))) (h : impl_Doc_rival_1.f k a0 l1_0 a2_0 a2_1 l2_2 l3_0 a4_0 a4_1 a4_2 a5_0 a5_1 a5_2 = some r) :
  Calls Tryz.prog 150 #[.int .i64 a0, .pointer (some ⟨g1_, 0, none⟩), .pointer (some ⟨g2_, 0, none⟩), .pointer (some ⟨g3_, 0, none⟩), .pointer (some ⟨g4_, 0, none⟩), .pointer (some ⟨g5_, 0, none⟩)] w fun e w' => e = .returned (.bool r) ∧ Below w.heap.size w w' := by
 have hu39 := Tryz.underlying39
 have HR1_0 := Aside0.mk hr1_0
 have HC1_0 := Aside0.mk hc1_0
 clear hr1_0 hc1_0
 have HR2_2 := Aside0.mk hr2_2
 have HC2_2 := Aside0.mk hc2_2
 clear hr2_2 hc2_2
 have HR3_0 := Aside0.mk hr3_0
 have HC3_0 := Aside0.mk hc3_0
 clear hr3_0 hc3_0
 have BK1 := Aside0.mk hg1_
 clear hg1_
 have BK82 := Aside0.mk hq2_
 clear hq2_
 have BK2 := Aside0.mk hg2_
 clear hg2_
 have BK3 := Aside0.mk hg3_
 clear hg3_
 have BK4 := Aside0.mk hg4_
 clear hg4_
 have BK5 := Aside0.mk hg5_
 clear hg5_
 have HB := Aside0.mk (Below.refl w.heap.size w)
 have H : ((slices_Contains_int_int.f k l1_0 a0).bind fun t591 => (if t591 = true then ((impl_Doc_wanted.f k a2_0 a2_1 l2_2 l3_0 a4_0 a4_1 a4_2 a0).bind fun t592 => ((impl_Doc_wanted.f k a2_0 a2_1 l2_2 l3_0 a5_0 a5_1 a5_2 a0).bind fun t593 => ((impl_compatible.f t592 t593).bind fun t594 => (some (!t594))))) else (some false))) = some r := h
 clear h
 obtain ⟨t591, A7, H⟩ := Xbi H
 try dsimp only at H
 by_cases c8 : t591 = true
 ·subst c8
  try rw [if_pos rfl] at H
  obtain ⟨t592, A9, H⟩ := Xbi H
  try dsimp only at H
  obtain ⟨t593, A10, H⟩ := Xbi H
  try dsimp only at H
  obtain ⟨t594, A11, H⟩ := Xbi H
  try dsimp only at H
  obtain rfl := Option.some.inj H
  go_enter Tryz.func150, Tryz.ntmps150
  try go_wp2_with (fail)
  replace BK1 := Aside0.mk (blk_drew BK1.out)
  replace BK82 := Aside0.mk (blk_drew BK82.out)
  replace BK2 := Aside0.mk (blk_drew BK2.out)
  replace BK3 := Aside0.mk (blk_drew BK3.out)
  replace BK4 := Aside0.mk (blk_drew BK4.out)
  replace BK5 := Aside0.mk (blk_drew BK5.out)
  replace HB := Aside0.mk (below_drew1 HB.out)
  refine start_ (n := 18) (S := fun w' => w'.cell? ⟨g1_, 0, none⟩ = some (.slice A1_0 l1_0.length c1_0) ∧ w'.cell? ⟨g2_, 0, none⟩ = some (.pointer (some ⟨q2_, 0, none⟩)) ∧ w'.cell? ⟨g3_, 0, none⟩ = some (.slice A3_0 l3_0.length c3_0) ∧ w'.cell? ⟨g4_, 0, none⟩ = some (.int .i64 a4_0) ∧ w'.cell? ⟨g4_, 1, none⟩ = some (.int .i64 a4_1) ∧ w'.cell? ⟨g4_, 2, none⟩ = some (.int .i64 a4_2) ∧ w'.cell? ⟨g5_, 0, none⟩ = some (.int .i64 a5_0) ∧ w'.cell? ⟨g5_, 1, none⟩ = some (.int .i64 a5_1) ∧ w'.cell? ⟨g5_, 2, none⟩ = some (.int .i64 a5_2)) (ds := []) #[false, false, false, false, false, false, false, false, false, false, false, false, false, false, false, false, false, false] (by kernel_rfl) rfl rfl ⟨(blk_cell BK1.out 0).trans rfl, (blk_cell BK2.out 0).trans rfl, (blk_cell BK3.out 0).trans rfl, (blk_cell BK4.out 0).trans rfl, (blk_cell BK4.out 1).trans rfl, (blk_cell BK4.out 2).trans rfl, (blk_cell BK5.out 0).trans rfl, (blk_cell BK5.out 1).trans rfl, (blk_cell BK5.out 2).trans rfl⟩ (fun hHeld => ?_); refine with_tabW impl_Doc_rival_1.tab1 impl_Doc_rival_1.bits1 (fun HT_ HW_ => ?_)
  generalize w.drew = w12 at BK1 BK82 BK2 BK3 BK4 BK5 HB hHeld ⊢
  refine Xpu 1 9 (XW.bs 18 2) HT_.out ?_
  refine Xta 0 8 (XW.bs 18 3) HT_.out HW_.out hHeld ?_
  refine one_ (i := 2) (N := some 10) (XW.bs 18 7) rfl rfl (one_of HT_.out (by kernel_rfl)) (by decide) (fun K hK => ?_)
  refine goes_ Tryz.func116 (by kernel_rfl) rfl #[.slice A1_0 l1_0.length c1_0, .int .i64 a0] (by rfl) rfl rfl (by (try simp only [List.map_toArray, List.map_cons, List.map_nil]); first | done | rfl | (simp only [List.length_drop, List.length_take]; rfl)) ?_
  with_reducible refine (slices_Contains_int_int.calls k _ _ l1_0 a0 true _ ?side1 ?side2 A7.out).mono ?_
  (case side1 => exact Xc HR1_0)
  (case side2 => exact HC1_0.out)
  rintro e w' ⟨rfl, ⟨nd, rfl⟩⟩
  refine ⟨_, rfl, ?_⟩
  refine hK.out _ _ ⟨(blk_cell BK1.out 0).trans rfl, (blk_cell BK2.out 0).trans rfl, (blk_cell BK3.out 0).trans rfl, (blk_cell BK4.out 0).trans rfl, (blk_cell BK4.out 1).trans rfl, (blk_cell BK4.out 2).trans rfl, (blk_cell BK5.out 0).trans rfl, (blk_cell BK5.out 1).trans rfl, (blk_cell BK5.out 2).trans rfl⟩ (fun hHeld => ?_)
  clear hK K
  refine Xno ?_
  refine Xpu 3 11 (XW.bs 18 15) HT_.out ?_
  refine Xpu 7 15 (XW.bs 18 143) HT_.out ?_
  refine Xpu 12 20 (XW.bs 18 4239) HT_.out ?_
  refine Xta 4 12 (XW.bs 18 4255) HT_.out HW_.out hHeld ?_
  refine Xta 5 13 (XW.bs 18 4287) HT_.out HW_.out hHeld ?_
  refine Xta 6 14 (XW.bs 18 4351) HT_.out HW_.out hHeld ?_
  refine Xta 9 17 (XW.bs 18 4863) HT_.out HW_.out hHeld ?_
  refine Xta 10 18 (XW.bs 18 5887) HT_.out HW_.out hHeld ?_
  refine Xta 11 19 (XW.bs 18 7935) HT_.out HW_.out hHeld ?_
  refine one_ (i := 8) (N := some 16) (XW.bs 18 8191) rfl rfl (one_of HT_.out (by kernel_rfl)) (by decide) (fun K hK => ?_)
  refine goes_ Tryz.func99 (by kernel_rfl) rfl #[.pointer (some ⟨q2_, 0, none⟩), .slice A3_0 l3_0.length c3_0, .agg #[.int .i64 a4_0, .int .i64 a4_1, .int .i64 a4_2], .int .i64 a0] (by rfl) rfl rfl (by (try simp only [List.map_toArray, List.map_cons, List.map_nil]); first | done | rfl | (simp only [List.length_drop, List.length_take]; rfl)) ?_
  with_reducible refine (impl_Doc_wanted.calls k q2_ a2_0 a2_1 A2_2 c2_2 l2_2 _ _ l3_0 a4_0 a4_1 a4_2 a0 t592 _ ?side1 ?side2 ?side3 ?side4 ?side5 A9.out).mono ?_
  (case side1 => exact BK82.out)
  (case side2 => exact Xc HR2_2)
  (case side3 => exact HC2_2.out)
  (case side4 => exact Xc HR3_0)
  (case side5 => exact HC3_0.out)
  rintro e w13 ⟨rfl, hb⟩
  refine ⟨_, rfl, ?_⟩
  replace BK1 := Xbb BK1 hb
  replace BK82 := Xbb BK82 hb
  replace BK2 := Xbb BK2 hb
  replace BK3 := Xbb BK3 hb
  replace BK4 := Xbb BK4 hb
  replace BK5 := Xbb BK5 hb
  replace HB := Aside0.mk (below_step Xi hb)
  try clear hb
  try clear hb2
  try clear hk
  try clear hi
  refine hK.out _ _ ⟨(blk_cell BK1.out 0).trans rfl, (blk_cell BK2.out 0).trans rfl, (blk_cell BK3.out 0).trans rfl, (blk_cell BK4.out 0).trans rfl, (blk_cell BK4.out 1).trans rfl, (blk_cell BK4.out 2).trans rfl, (blk_cell BK5.out 0).trans rfl, (blk_cell BK5.out 1).trans rfl, (blk_cell BK5.out 2).trans rfl⟩ (fun hHeld => ?_)
  clear hK K
  refine Xno ?_
  refine one_ (i := 13) (N := some 21) (XW.bs 18 16383) rfl rfl (one_of HT_.out (by kernel_rfl)) (by decide) (fun K hK => ?_)
  refine goes_ Tryz.func99 (by kernel_rfl) rfl #[.pointer (some ⟨q2_, 0, none⟩), .slice A3_0 l3_0.length c3_0, .agg #[.int .i64 a5_0, .int .i64 a5_1, .int .i64 a5_2], .int .i64 a0] (by rfl) rfl rfl (by (try simp only [List.map_toArray, List.map_cons, List.map_nil]); first | done | rfl | (simp only [List.length_drop, List.length_take]; rfl)) ?_
  with_reducible refine (impl_Doc_wanted.calls k q2_ a2_0 a2_1 A2_2 c2_2 l2_2 _ _ l3_0 a5_0 a5_1 a5_2 a0 t593 _ ?side1 ?side2 ?side3 ?side4 ?side5 A10.out).mono ?_
  (case side1 => exact BK82.out)
  (case side2 => exact Xc HR2_2)
  (case side3 => exact HC2_2.out)
  (case side4 => exact Xc HR3_0)
  (case side5 => exact HC3_0.out)
  rintro e w14 ⟨rfl, hb⟩
  refine ⟨_, rfl, ?_⟩
  replace BK1 := Xbb BK1 hb
  replace BK82 := Xbb BK82 hb
  replace BK2 := Xbb BK2 hb
  replace BK3 := Xbb BK3 hb
  replace BK4 := Xbb BK4 hb
  replace BK5 := Xbb BK5 hb
  replace HB := Aside0.mk (below_step Xi hb)
  try clear hb
  try clear hb2
  try clear hk
  try clear hi
  refine hK.out _ _ ⟨(blk_cell BK1.out 0).trans rfl, (blk_cell BK2.out 0).trans rfl, (blk_cell BK3.out 0).trans rfl, (blk_cell BK4.out 0).trans rfl, (blk_cell BK4.out 1).trans rfl, (blk_cell BK4.out 2).trans rfl, (blk_cell BK5.out 0).trans rfl, (blk_cell BK5.out 1).trans rfl, (blk_cell BK5.out 2).trans rfl⟩ (fun hHeld => ?_)
  clear hK K
  refine Xno ?_
  refine one_ (i := 14) (N := some 22) (XW.bs 18 32767) rfl rfl (one_of HT_.out (by kernel_rfl)) (by decide) (fun K hK => ?_)
  refine goes_ Tryz.func98 (by kernel_rfl) rfl #[.int .i64 t592, .int .i64 t593] (by rfl) rfl rfl (by (try simp only [List.map_toArray, List.map_cons, List.map_nil]); first | done | rfl | (simp only [List.length_drop, List.length_take]; rfl)) ?_
  with_reducible refine (impl_compatible.calls t592 t593 t594 _ A11.out).mono ?_
  rintro e w15 ⟨rfl, hb⟩
  refine ⟨_, rfl, ?_⟩
  replace BK1 := Xbb BK1 hb
  replace BK82 := Xbb BK82 hb
  replace BK2 := Xbb BK2 hb
  replace BK3 := Xbb BK3 hb
  replace BK4 := Xbb BK4 hb
  replace BK5 := Xbb BK5 hb
  replace HB := Aside0.mk (below_step Xi hb)
  try clear hb
  try clear hb2
  try clear hk
  try clear hi
  refine hK.out _ _ ⟨(blk_cell BK1.out 0).trans rfl, (blk_cell BK2.out 0).trans rfl, (blk_cell BK3.out 0).trans rfl, (blk_cell BK4.out 0).trans rfl, (blk_cell BK4.out 1).trans rfl, (blk_cell BK4.out 2).trans rfl, (blk_cell BK5.out 0).trans rfl, (blk_cell BK5.out 1).trans rfl, (blk_cell BK5.out 2).trans rfl⟩ (fun hHeld => ?_)
  clear hK K
  refine Xno ?_
  refine Xpu 15 23 (XW.bs 18 65535) HT_.out ?_
  refine Xpu 16 24 (XW.bs 18 131071) HT_.out ?_
  refine Xpu 17 7 (XW.bs 18 262143) HT_.out ?_
  refine done_ (done_of HT_.out (by kernel_rfl)) ?_
  try go_wp2_with (fail)
  go_ret
  exact ⟨Xe, Xi⟩
 replace c8 := Bool.eq_false_iff.mpr c8
 subst c8
 try rw [if_neg (show ¬ (false = true) by decide)] at H
 obtain rfl := Option.some.inj H
 go_enter Tryz.func150, Tryz.ntmps150
 try go_wp2_with (fail)
 replace BK1 := Aside0.mk (blk_drew BK1.out)
 replace BK82 := Aside0.mk (blk_drew BK82.out)
 replace BK2 := Aside0.mk (blk_drew BK2.out)
 replace BK3 := Aside0.mk (blk_drew BK3.out)
 replace BK4 := Aside0.mk (blk_drew BK4.out)
 replace BK5 := Aside0.mk (blk_drew BK5.out)
 replace HB := Aside0.mk (below_drew1 HB.out)
 refine start_ (n := 18) (S := fun w' => w'.cell? ⟨g1_, 0, none⟩ = some (.slice A1_0 l1_0.length c1_0)) (ds := []) #[false, false, false, false, false, false, false, false, false, false, false, false, false, false, false, false, false, false] (by kernel_rfl) rfl rfl ((blk_cell BK1.out 0).trans rfl) (fun hHeld => ?_); refine with_tabW impl_Doc_rival_1.tab1 impl_Doc_rival_1.bits1 (fun HT_ HW_ => ?_)
 generalize w.drew = w16 at BK1 BK82 BK2 BK3 BK4 BK5 HB hHeld ⊢
 refine Xpu 1 9 (XW.bs 18 2) HT_.out ?_
 refine take_ (i := 0) (N := some 8) (v := ?_) (a' := ?_) (XW.bs 18 3) rfl rfl (take_ofW HT_.out HW_.out (by kernel_rfl)) (fun _ _ _ h => h) (Or.inl ⟨by rfl, ?_⟩) hHeld ?_ ?_
 rotate_left
 ·intro w' s0
  go_simp
  with_reducible rfl
 rotate_left
 ·simp only [XW.q0, XW.q1, XW.q2, i64_w, i32_w]
  rfl
 refine one_ (i := 2) (N := some 10) (XW.bs 18 7) rfl rfl (one_of HT_.out (by kernel_rfl)) (by decide) (fun K hK => ?_)
 refine goes_ Tryz.func116 (by kernel_rfl) rfl #[.slice A1_0 l1_0.length c1_0, .int .i64 a0] (by rfl) rfl rfl (by (try simp only [List.map_toArray, List.map_cons, List.map_nil]); first | done | rfl | (simp only [List.length_drop, List.length_take]; rfl)) ?_
 with_reducible refine (slices_Contains_int_int.calls k _ _ l1_0 a0 false _ ?side1 ?side2 A7.out).mono ?_
 (case side1 => exact Xc HR1_0)
 (case side2 => exact HC1_0.out)
 rintro e w' ⟨rfl, ⟨nd, rfl⟩⟩
 refine ⟨_, rfl, ?_⟩
 refine hK.out _ _ ((blk_cell BK1.out 0).trans rfl) (fun hHeld => ?_)
 clear hK K
 refine Xno ?_
 refine Xpu 3 11 (XW.bs 18 15) HT_.out ?_
 refine Xpn 4 12 (XW.bs 18 31) HT_.out ?_
 refine Xpn 5 13 (XW.bs 18 63) HT_.out ?_
 refine Xpn 6 14 (XW.bs 18 127) HT_.out ?_
 refine Xpn 7 15 (XW.bs 18 255) HT_.out ?_
 refine Xpn 8 16 (XW.bs 18 511) HT_.out ?_
 refine Xpn 9 17 (XW.bs 18 1023) HT_.out ?_
 refine Xpn 10 18 (XW.bs 18 2047) HT_.out ?_
 refine Xpn 11 19 (XW.bs 18 4095) HT_.out ?_
 refine Xpn 12 20 (XW.bs 18 8191) HT_.out ?_
 refine Xpn 13 21 (XW.bs 18 16383) HT_.out ?_
 refine Xpn 14 22 (XW.bs 18 32767) HT_.out ?_
 refine Xpn 15 23 (XW.bs 18 65535) HT_.out ?_
 refine Xpu 16 24 (XW.bs 18 131071) HT_.out ?_
 refine Xpu 17 7 (XW.bs 18 262143) HT_.out ?_
 refine done_ (done_of HT_.out (by kernel_rfl)) ?_
 try go_wp2_with (fail)
 go_ret
 exact ⟨Xe, Xi⟩
end Go.Proofs.YtahhgjkgfbppeaaGreat.XA
