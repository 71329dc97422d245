/- Words and contracts of this claim. Conditions: each theorem's own premises. -/
import Derived.Test.YtahhgjkgfbppeaaGreatZ1
import Derived.Test.YtahhgjkgfbppeaaGreatZ3
import Derived.Test.YtahhgjkgfbppeaaGreatZ5
import Derived.Test.YtahhgjkgfbppeaaGreatZ6
namespace Go.Proofs.YtahhgjkgfbppeaaGreat.XA
open Go.RowKit Go.Proofs.YtahhgjkgfbppeaaGreatW.PrintWords Go.Proofs.YtahhgjkgfbppeaaGreatW.PrintLast Go.Proofs.YtahhgjkgfbppeaaGreatW.PrintMore XW
attribute [local go_sem] max2_int min2_int max_two min_two max_three min_three max_four min_four   -- for this text's walks alone
set_option linter.unusedVariables false
set_option linter.unusedSimpArgs false
set_option maxHeartbeats 8000000
set_option maxRecDepth 100000
def slices_IndexFunc_impl_Hold_impl_Hold_at_impl_Table_waiting_1.l0 : Nat → List (S39) → Int → Int → Int → Option (Int)
 | 0, _, _, _, _ => none
 | k + 1, x0, x7, x8, x26000 => if x8 < x7 then (if 0 ≤ x8 then (if x8 < (x0.length : Int) then ((impl_Table_waiting_1.f ((rd_T39 x0 x8).f0) ((rd_T39 x0 x8).f1) ((rd_T39 x0 x8).f2) x26000).bind fun t10 => (if t10 = true then (some x8) else (slices_IndexFunc_impl_Hold_impl_Hold_at_impl_Table_waiting_1.l0 k x0 x7 (wrap64 (x8 + 1)) x26000))) else (none)) else (none)) else (some (-1))
def slices_IndexFunc_impl_Hold_impl_Hold_at_impl_Table_waiting_1.f (k : Nat) (l0 : List (S39)) (a1_0_0 : Int) : Option (Int) := slices_IndexFunc_impl_Hold_impl_Hold_at_impl_Table_waiting_1.l0 k l0 (l0.length : Int) 0 a1_0_0
theorem slices_IndexFunc_impl_Hold_impl_Hold_at_impl_Table_waiting_1.calls (k : Nat) (A0 : Option Addr) (c0 : Nat) (l0 : List (S39)) (g1_0_ : Nat) (a1_0_0 : Int) (r : Int) (w : World) (hr0 : Kd.C k39 w A0 l0.length l0) (hc0 : l0.length ≤ c0) (hg1_0_ : w.heap[g1_0_]? = some (.cells #[.int .i64 a1_0_0] 3 (0, 0))) (h : slices_IndexFunc_impl_Hold_impl_Hold_at_impl_Table_waiting_1.f k l0 a1_0_0 = some r) :
  Calls Tryz.prog 108 #[.slice A0 l0.length c0, .func (.func 109) #[] #[.pointer (some ⟨g1_0_, 0, none⟩)]] w fun e w' => e = .returned (.int .i64 r) ∧ Below w.heap.size w w' := by
 have hu39 := Tryz.underlying39
 have HR0 := Am hr0
 have HC0 := Am hc0
 clear hr0 hc0
 have B25 := Am hg1_0_
 clear hg1_0_
 have HB := Am (Below.refl w.heap.size w)
 have H : (slices_IndexFunc_impl_Hold_impl_Hold_at_impl_Table_waiting_1.l0 k l0 (l0.length : Int) 0 a1_0_0) = some r := h
 clear h
 have H' := Am H
 clear H
 go_enter Tryz.func108, Tryz.ntmps108
 go_wp2
 go_loopg [8] k (fun kq v8 w' => ∃ (x8_1 : Int), v8 = .int .i64 x8_1 ∧ Aside0 (slices_IndexFunc_impl_Hold_impl_Hold_at_impl_Table_waiting_1.l0 kq l0 (l0.length : Int) x8_1 a1_0_0 = some r) ∧ Aside0 (kq ≤ k) ∧ Aside0 (w'.heap[g1_0_]? = some (.cells #[.int .i64 a1_0_0] 3 (0, 0))) ∧ Aside0 (Below w.heap.size w w'))
 case atStart => exact ⟨(0), Xr, H', Xkr, B25, ⟨Xi⟩⟩
 clear H'
 obtain ⟨x8_1, rfl, HA, HK1, B25, HB⟩ := hrel
 cases gk with | zero => cases HA.out | succ k1 => ?_
 have H := HA.out
 clear HA
 simp only [slices_IndexFunc_impl_Hold_impl_Hold_at_impl_Table_waiting_1.l0] at H
 obtain ⟨c3b0, H⟩ | ⟨c3b0, H⟩ := Xit H
 ·obtain ⟨c4b0, H⟩ := Xid H
  obtain ⟨c5b0, H⟩ := Xid H
  obtain ⟨t10, A6, H⟩ := Xbi H
  try dsimp only at H
  have HC7 := Am H
  clear H
  obtain ⟨ad11, e11, p11, q11, hx11_0, hx11_1, hx11_2⟩ := at_B39 HR0 x8_1 Xa Xa HB
  cases e11
  go_upto_if 16 with (go_at_call 109; (with_reducible refine (impl_Table_waiting_1.calls ((rd_T39 l0 x8_1).f0) ((rd_T39 l0 x8_1).f1) ((rd_T39 l0 x8_1).f2) g1_0_ a1_0_0 t10 _ ?s1 A6.out).mono ?_); (case s1 => exact B25.out); rintro e w8 ⟨rfl, hb⟩; replace B25 := Xbb B25 hb; replace HB := Xhb hb; clear hb)
  have H := HC7.out
  clear HC7
  by_cases c9 : t10 = true
  ·subst c9
   try rw [if_pos rfl] at H
   obtain rfl := Xsi H
   go_wp2
   go_ret
   exact ⟨Xe, Xi⟩
  replace c9 := Xbf c9
  subst c9
  try rw [if_neg Xft] at H
  have H' := Am H
  clear H
  go_wp2
  go_roundg k1
  case measure => have := HK1.out; omega
  case rel => exact ⟨(wrap64 (x8_1 + 1)), Xr, H', Xk1, B25, ⟨Xi⟩⟩
 obtain rfl := Xsi H
 go_wp2
 go_ret
 exact ⟨Xe, Xi⟩
def impl_Table_waiting.f (k : Nat) (l0_0 : List (S39)) (l0_1 : List (S39)) (a1 : Int) : Option (Int) := (slices_IndexFunc_impl_Hold_impl_Hold_at_impl_Table_waiting_1.f k l0_1 a1).bind fun t10 => (some t10)
theorem impl_Table_waiting.calls (k : Nat) (g0_ : Nat) (A0_0 : Option Addr) (c0_0 : Nat) (l0_0 : List (S39)) (A0_1 : Option Addr) (c0_1 : Nat) (l0_1 : List (S39)) (a1 : Int) (r : Int) (w : World) (hg0_ : w.heap[g0_]? = some (.cells #[.slice A0_0 l0_0.length c0_0, .slice A0_1 l0_1.length c0_1] 53 (0, 0))) (hr0_0 : Kd.C k39 w A0_0 l0_0.length l0_0) (hc0_0 : l0_0.length ≤ c0_0) (hr0_1 : Kd.C k39 w A0_1 l0_1.length l0_1) (hc0_1 : l0_1.length ≤ c0_1) (h : impl_Table_waiting.f k l0_0 l0_1 a1 = some r) :
  Calls Tryz.prog 58 #[.pointer (some ⟨g0_, 0, none⟩), .int .i64 a1] w fun e w' => e = .returned (.int .i64 r) ∧ Below w.heap.size w w' := by
 have HR0_0 := Am hr0_0
 have HC0_0 := Am hc0_0
 clear hr0_0 hc0_0
 have HR0_1 := Am hr0_1
 have HC0_1 := Am hc0_1
 clear hr0_1 hc0_1
 have B0 := Am hg0_
 clear hg0_
 have HB := Am (Below.refl w.heap.size w)
 have H : ((slices_IndexFunc_impl_Hold_impl_Hold_at_impl_Table_waiting_1.f k l0_1 a1).bind fun t10 => (some t10)) = some r := h
 clear h
 obtain ⟨t10, A3, H⟩ := Xbi H
 try dsimp only at H
 obtain rfl := Xsi H
 go_enter Tryz.func58, Tryz.ntmps58
 go_wp2_with (first | ((with_reducible refine gate_dst (N := 3) rfl ?_); refine Xbx 3 #[.int .i64 a1] 3 ?_; intro gb11 hg w4 B11 GE11 hb; replace HB := Xhb hb; have NB0_11 := Xnb hg B0; have NB11_0 := Xns NB0_11; replace B0 := Xbb B0 hb; clear hb hg; have hnb5 := NB0_11.out; have hnc5 := NB11_0.out; obtain ⟨Z6_0, Z6_1⟩ := Xc2 B0) | ((with_reducible refine gate_callee (f := 108) rfl ?_); refine Xgo 10 Tryz.func108 #[.slice A0_1 l0_1.length c0_1, .func (.func 109) #[] #[.pointer (some ⟨gb11, 0, none⟩)]] ?_; (with_reducible refine (slices_IndexFunc_impl_Hold_impl_Hold_at_impl_Table_waiting_1.calls k _ _ l0_1 gb11 a1 t10 _ ?s1 ?s2 ?s3 A3.out).mono ?_); (case s1 => exact Xc HR0_1); (case s2 => exact HC0_1.out); (case s3 => exact B11.out); rintro e w7 ⟨rfl, hb⟩; refine ⟨_, rfl, ?_⟩; replace B0 := Xbb B0 hb; replace B11 := Xbb B11 hb; replace HB := Xhb hb; clear hb))
 go_ret
 exact ⟨Xe, Xi⟩
mutual
def impl_TableOK.j0 : Nat → Bool → Int → Int → List (S113) → List (S39) → List (S39) → Option (Bool)
 | 0, _, _, _, _, _, _ => none
 | k + 1, x17, x528000, x528001, x528002, x529000, x529001 => if x17 = true then (some false) else (impl_TableOK.l0 k x529001 (x529001.length : Int) 0 x528000 x528001 x528002 x529000 x529001)
def impl_TableOK.l0 : Nat → List (S39) → Int → Int → Int → Int → List (S113) → List (S39) → List (S39) → Option (Bool)
 | 0, _, _, _, _, _, _, _, _ => none
 | k + 1, x19, x20, x21, x528000, x528001, x528002, x529000, x529001 => if x21 < x20 then (if 0 ≤ x21 then (if x21 < (x19.length : Int) then ((impl_Doc_isHold.f k x528000 x528001 x528002 ((rd_T39 x19 x21).f0) ((rd_T39 x19 x21).f1) ((rd_T39 x19 x21).f2)).bind fun t10 => (if t10 = true then ((impl_Table_waiting.f k x529000 x529001 ((rd_T39 x19 x21).f0)).bind fun t11 => (if t11 = x21 then (impl_TableOK.l0 k x19 x20 (wrap64 (x21 + 1)) x528000 x528001 x528002 x529000 x529001) else (some false))) else (some false))) else (none)) else (none)) else (some true)
end
def impl_TableOK.f (k : Nat) (a0_0 : Int) (a0_1 : Int) (l0_2 : List (S113)) (l1_0 : List (S39)) (l1_1 : List (S39)) : Option (Bool) := (impl_HoldsOK.f k a0_0 a0_1 l0_2 l1_0).bind fun t10 => (if t10 = true then (impl_TableOK.j0 k (decide ((l1_1.length : Int) > 6)) a0_0 a0_1 l0_2 l1_0 l1_1) else (impl_TableOK.j0 k true a0_0 a0_1 l0_2 l1_0 l1_1))
theorem impl_TableOK.calls (k : Nat) (a0_0 : Int) (a0_1 : Int) (A0_2 : Option Addr) (c0_2 : Nat) (l0_2 : List (S113)) (A1_0 : Option Addr) (c1_0 : Nat) (l1_0 : List (S39)) (A1_1 : Option Addr) (c1_1 : Nat) (l1_1 : List (S39)) (r : Bool) (w : World) (hr0_2 : Kd.C k113 w A0_2 l0_2.length l0_2) (hc0_2 : l0_2.length ≤ c0_2) (hr1_0 : Kd.C k39 w A1_0 l1_0.length l1_0) (hc1_0 : l1_0.length ≤ c1_0) (hr1_1 : Kd.C k39 w A1_1 l1_1.length l1_1) (hc1_1 : l1_1.length ≤ c1_1) (h : impl_TableOK.f k a0_0 a0_1 l0_2 l1_0 l1_1 = some r) :
  Calls Tryz.prog 106 #[.agg #[.int .i64 a0_0, .int .i64 a0_1, .slice A0_2 l0_2.length c0_2], .agg #[.slice A1_0 l1_0.length c1_0, .slice A1_1 l1_1.length c1_1]] w fun e w' => e = .returned (.bool r) ∧ Below w.heap.size w w' := by
 have hu35 := Tryz.underlying35
 have hu53 := Tryz.underlying53
 have hu39 := Tryz.underlying39
 have HR0_2 := Am hr0_2
 have HC0_2 := Am hc0_2
 clear hr0_2 hc0_2
 have HR1_0 := Am hr1_0
 have HC1_0 := Am hc1_0
 clear hr1_0 hc1_0
 have HR1_1 := Am hr1_1
 have HC1_1 := Am hc1_1
 clear hr1_1 hc1_1
 have HB := Am (Below.refl w.heap.size w)
 have H : ((impl_HoldsOK.f k a0_0 a0_1 l0_2 l1_0).bind fun t44 => (if t44 = true then (impl_TableOK.j0 k (decide ((l1_1.length : Int) > 6)) a0_0 a0_1 l0_2 l1_0 l1_1) else (impl_TableOK.j0 k true a0_0 a0_1 l0_2 l1_0 l1_1))) = some r := h
 clear h
 have HC3 := Am H
 clear H
 go_enter Tryz.func106, Tryz.ntmps106
 go_upto_region 1 with (first | ((with_reducible refine gate_dst (N := 2) rfl ?_); (try (refine gate_guard (by rfl) ?_; dsimp only)); refine Xbx 2 #[.int .i64 a0_0, .int .i64 a0_1, .slice A0_2 l0_2.length c0_2] 35 ?_; intro gb45 hg w4 B45 GE45 hb; replace HB := Xhb hb; clear hb hg) | ((with_reducible refine gate_dst (N := 3) rfl ?_); (try (refine gate_guard (by rfl) ?_; dsimp only)); refine Xbx 3 #[.slice A1_0 l1_0.length c1_0, .slice A1_1 l1_1.length c1_1] 53 ?_; intro gb46 hg w5 B46 GE46 hb; replace HB := Xhb hb; have NB45_46 := Xnb hg B45; have NB46_45 := Xns NB45_46; replace B45 := Xbb B45 hb; clear hb hg))
 (try simp only [XW.q0, XW.q1, XW.q2])
 go_cut [17] (fun v17 wc => ∃ (kq : Nat) (x17_2 : Bool), v17 = .bool x17_2 ∧ Aside0 (impl_TableOK.j0 kq x17_2 a0_0 a0_1 l0_2 l1_0 l1_1 = some r) ∧ Aside0 (kq ≤ k) ∧ Aside0 (wc.heap[gb45]? = some (.cells #[.int .i64 a0_0, .int .i64 a0_1, (.slice A0_2 l0_2.length c0_2)] 35 (0, 0))) ∧ Aside0 (wc.heap[gb46]? = some (.cells #[(.slice A1_0 l1_0.length c1_0), (.slice A1_1 l1_1.length c1_1)] 53 (0, 0))) ∧ Aside0 (Below w.heap.size w wc))
 case first =>
  have H := HC3.out
  clear HC3
  obtain ⟨t44, A6, H⟩ := Xbi H
  try dsimp only at H
  by_cases c7 : t44 = true
  ·subst c7
   try rw [if_pos rfl] at H
   have H' := Am H
   clear H
   have hnb8 := NB45_46.out
   have hnc8 := NB46_45.out
   obtain ⟨Z9_0, Z9_1, Z9_2⟩ := Xc3 B45
   obtain ⟨F9_0, F9_1, F9_2⟩ := Xf3 B45
   obtain ⟨Z10_0, Z10_1⟩ := Xc2 B46
   obtain ⟨F10_0, F10_1⟩ := Xf2 B46
   go_wp2_with (first | ((with_reducible refine gate_callee (f := 31) rfl ?_); refine Xgo 10 Tryz.func31 #[.agg #[.int .i64 a0_0, .int .i64 a0_1, .slice A0_2 l0_2.length c0_2], .slice A1_0 l1_0.length c1_0] ?_; (with_reducible refine (impl_HoldsOK.calls k a0_0 a0_1 _ _ l0_2 _ _ l1_0 true _ ?s1 ?s2 ?s3 ?s4 A6.out).mono ?_); (case s1 => exact Xc HR0_2); (case s2 => exact HC0_2.out); (case s3 => exact Xc HR1_0); (case s4 => exact HC1_0.out); rintro e w11 ⟨rfl, hb⟩; refine ⟨_, rfl, ?_⟩; replace B45 := Xbb B45 hb; replace B46 := Xbb B46 hb; replace HB := Xhb hb; clear hb; obtain ⟨Z12_0, Z12_1⟩ := Xc2 B46; obtain ⟨F12_0, F12_1⟩ := Xf2 B46))
   go_meet
   case rel => exact ⟨_, (decide ((l1_1.length : Int) > 6)), Xr, H', Xko, B45, B46, ⟨Xi⟩⟩
  replace c7 := Xbf c7
  subst c7
  try rw [if_neg Xft] at H
  have H' := Am H
  clear H
  have hnb13 := NB45_46.out
  have hnc13 := NB46_45.out
  obtain ⟨Z14_0, Z14_1, Z14_2⟩ := Xc3 B45
  obtain ⟨F14_0, F14_1, F14_2⟩ := Xf3 B45
  obtain ⟨Z15_0, Z15_1⟩ := Xc2 B46
  obtain ⟨F15_0, F15_1⟩ := Xf2 B46
  go_wp2_with (first | ((with_reducible refine gate_callee (f := 31) rfl ?_); refine Xgo 10 Tryz.func31 #[.agg #[.int .i64 a0_0, .int .i64 a0_1, .slice A0_2 l0_2.length c0_2], .slice A1_0 l1_0.length c1_0] ?_; (with_reducible refine (impl_HoldsOK.calls k a0_0 a0_1 _ _ l0_2 _ _ l1_0 false _ ?s1 ?s2 ?s3 ?s4 A6.out).mono ?_); (case s1 => exact Xc HR0_2); (case s2 => exact HC0_2.out); (case s3 => exact Xc HR1_0); (case s4 => exact HC1_0.out); rintro e w16 ⟨rfl, hb⟩; refine ⟨_, rfl, ?_⟩; replace B45 := Xbb B45 hb; replace B46 := Xbb B46 hb; replace HB := Xhb hb; clear hb))
  go_meet
  case rel => exact ⟨_, (true), Xr, H', Xko, B45, B46, ⟨Xi⟩⟩
 clear HC3
 obtain ⟨kq, x17_2, rfl, HA, HJ2, B45, B46, HB⟩ := hcut
 cases kq with | zero => cases HA.out | succ kj2 => ?_
 have H := HA.out
 clear HA
 simp only [impl_TableOK.j0] at H
 by_cases c17 : x17_2 = true
 ·subst c17
  try rw [if_pos rfl] at H
  obtain rfl := Xsi H
  go_wp2
  go_ret
  exact ⟨Xe, Xi⟩
 replace c17 := Xbf c17
 subst c17
 try rw [if_neg Xft] at H
 have H' := Am H
 clear H
 have hnb18 := NB46_45.out
 have hnc18 := NB45_46.out
 obtain ⟨Z19_0, Z19_1⟩ := Xc2 B46
 obtain ⟨F19_0, F19_1⟩ := Xf2 B46
 go_wp2
 go_loopg [21] kj2 (fun kq v21 w' => ∃ (x21_2 : Int), v21 = .int .i64 x21_2 ∧ Aside0 (impl_TableOK.l0 kq l1_1 (l1_1.length : Int) x21_2 a0_0 a0_1 l0_2 l1_0 l1_1 = some r) ∧ Aside0 (kq ≤ kj2) ∧ Aside0 (w'.heap[gb45]? = some (.cells #[.int .i64 a0_0, .int .i64 a0_1, (.slice A0_2 l0_2.length c0_2)] 35 (0, 0))) ∧ Aside0 (w'.heap[gb46]? = some (.cells #[(.slice A1_0 l1_0.length c1_0), (.slice A1_1 l1_1.length c1_1)] 53 (0, 0))) ∧ Aside0 (Below w.heap.size w w'))
 case atStart => exact ⟨(0), Xr, H', Xkr, B45, B46, ⟨Xi⟩⟩
 clear H'
 (try clear c17); (try clear Z19_0); (try clear Z19_1); (try clear F19_0); (try clear F19_1)
 obtain ⟨x21_2, rfl, HA, HK2, B45, B46, HB⟩ := hrel
 cases gk with | zero => cases HA.out | succ k2 => ?_
 have H := HA.out
 clear HA
 simp only [impl_TableOK.l0] at H
 obtain ⟨c20b0, H⟩ | ⟨c20b0, H⟩ := Xit H
 ·obtain ⟨c21b0, H⟩ := Xid H
  obtain ⟨c22b0, H⟩ := Xid H
  have HC23 := Am H
  clear H
  obtain ⟨ad47, e47, p47, q47, hx47_0, hx47_1, hx47_2⟩ := at_B39 HR1_1 x21_2 Xa Xa HB
  cases e47
  go_upto_region 6 with (first | ((with_reducible refine gate_dst (N := 6) rfl ?_); (try (refine gate_guard (by rfl) ?_; dsimp only)); refine Xbx 6 #[.int .i64 0, .int .i64 0, .int .i64 0] 39 ?_; intro gb48 hg w24 B48 GE48 hb; replace HB := Xhb hb; have NB45_48 := Xnb hg B45; have NB48_45 := Xns NB45_48; replace B45 := Xbb B45 hb; have NB46_48 := Xnb hg B46; have NB48_46 := Xns NB46_48; replace B46 := Xbb B46 hb; clear hb hg; have hnb25 := NB48_45.out; have hnc25 := NB45_48.out; have hnb26 := NB48_46.out; have hnc26 := NB46_48.out; obtain ⟨Z27_0, Z27_1, Z27_2⟩ := Xc3 B48; obtain ⟨F27_0, F27_1, F27_2⟩ := Xf3 B48) | ((with_reducible refine gate_store (t := 39) (p := 6) rfl ?_); refine store_event (t := 39) (p := 6) (v := ?vo_w28) (w1 := (((w24.setCell ⟨gb48, 0, none⟩ (.int .i64 ((rd_T39 l1_1 x21_2).f0))).setCell ⟨gb48, 1, none⟩ (.int .i64 ((rd_T39 l1_1 x21_2).f1))).setCell ⟨gb48, 2, none⟩ (.int .i64 ((rd_T39 l1_1 x21_2).f2)))) ?hg ?ho ?hn ?hr ?_; (case ho => rfl); (case hg => rfl); (case hn => rfl); (case hr => first | (go_simp; done) | (go_simp; rfl)); intro w28 hw; have n0_ : Aside0 (w28.heap[gb45]? = some (.cells #[.int .i64 a0_0, .int .i64 a0_1, .slice A0_2 l0_2.length c0_2] 35 (0, 0))) := ⟨(by rw [hw]; exact (by refine Xu ?_; refine blk_far ?_ NB45_48.out _; refine Xu ?_; refine blk_far ?_ NB45_48.out _; refine Xu ?_; refine blk_far ?_ NB45_48.out _; refine Xu ?_; exact B45.out))⟩; have n1_ : Aside0 (w28.heap[gb46]? = some (.cells #[.slice A1_0 l1_0.length c1_0, .slice (some ad47) l1_1.length c1_1] 53 (0, 0))) := ⟨(by rw [hw]; exact (by refine Xu ?_; refine blk_far ?_ NB46_48.out _; refine Xu ?_; refine blk_far ?_ NB46_48.out _; refine Xu ?_; refine blk_far ?_ NB46_48.out _; refine Xu ?_; exact B46.out))⟩; have n2_ : Aside0 (w28.heap[gb48]? = some (.cells #[.int .i64 ((rd_T39 l1_1 x21_2).f0), .int .i64 ((rd_T39 l1_1 x21_2).f1), .int .i64 ((rd_T39 l1_1 x21_2).f2)] 39 (0, 0))) := ⟨(by rw [hw]; exact (by refine Xu ?_; refine blk_put (cs := #[.int .i64 ((rd_T39 l1_1 x21_2).f0), .int .i64 ((rd_T39 l1_1 x21_2).f1), .int .i64 0]) ?_ 2 _ rfl; refine Xu ?_; refine blk_put (cs := #[.int .i64 ((rd_T39 l1_1 x21_2).f0), .int .i64 0, .int .i64 0]) ?_ 1 _ rfl; refine Xu ?_; refine blk_put (cs := #[.int .i64 0, .int .i64 0, .int .i64 0]) ?_ 0 _ rfl; refine Xu ?_; exact B48.out))⟩; have n3_ : Aside0 (Below w.heap.size w w28) := ⟨(by rw [hw]; exact Xi)⟩; clear hw; clear B45; clear B46; clear B48; clear HB; have B45 := n0_; have B46 := n1_; have B48 := n2_; have HB := n3_; clear n0_ n1_ n2_ n3_))
  have H := HC23.out
  clear HC23
  obtain ⟨t49, A29, H⟩ := Xbi H
  try dsimp only at H
  by_cases c30 : t49 = true
  ·subst c30
   try rw [if_pos rfl] at H
   obtain ⟨t50, A31, H⟩ := Xbi H
   try dsimp only at H
   have HC32 := Am H
   clear H
   have hnb33 := NB48_45.out
   have hnc33 := NB45_48.out
   have hnb34 := NB48_46.out
   have hnc34 := NB46_48.out
   obtain ⟨Z35_0, Z35_1, Z35_2⟩ := Xc3 B48
   obtain ⟨F35_0, F35_1, F35_2⟩ := Xf3 B48
   go_upto_if 35 with (first | ((with_reducible refine gate_callee (f := 69) rfl ?_); refine Xgo 27 Tryz.func69 #[.pointer (some ⟨gb45, 0, none⟩), .agg #[.int .i64 ((rd_T39 l1_1 x21_2).f0), .int .i64 ((rd_T39 l1_1 x21_2).f1), .int .i64 ((rd_T39 l1_1 x21_2).f2)]] ?_; (with_reducible refine (impl_Doc_isHold.calls k2 gb45 a0_0 a0_1 A0_2 c0_2 l0_2 ((rd_T39 l1_1 x21_2).f0) ((rd_T39 l1_1 x21_2).f1) ((rd_T39 l1_1 x21_2).f2) true _ ?s1 ?s2 ?s3 A29.out).mono ?_); (case s1 => exact B45.out); (case s2 => exact Xc HR0_2); (case s3 => exact HC0_2.out); rintro e w36 ⟨rfl, hb⟩; refine ⟨_, rfl, ?_⟩; replace B45 := Xbb B45 hb; replace B46 := Xbb B46 hb; replace B48 := Xbb B48 hb; replace HB := Xhb hb; clear hb; obtain ⟨Z37_0, Z37_1, Z37_2⟩ := Xc3 B48; obtain ⟨F37_0, F37_1, F37_2⟩ := Xf3 B48) | (go_at_call 58; (with_reducible refine (impl_Table_waiting.calls k2 gb46 A1_0 c1_0 l1_0 (some ad47) c1_1 l1_1 ((rd_T39 l1_1 x21_2).f0) t50 _ ?s1 ?s2 ?s3 ?s4 ?s5 A31.out).mono ?_); (case s1 => exact B46.out); (case s2 => exact Xc HR1_0); (case s3 => exact HC1_0.out); (case s4 => exact Xc HR1_1); (case s5 => exact HC1_1.out); rintro e w38 ⟨rfl, hb⟩; replace B45 := Xbb B45 hb; replace B46 := Xbb B46 hb; replace B48 := Xbb B48 hb; replace HB := Xhb hb; clear hb))
   have H := HC32.out
   clear HC32
   obtain ⟨c39, H⟩ | ⟨c39, H⟩ := Xiu H
   ·have c39b0 : (t50 == x21_2) = true := beq_iff_eq.mpr c39
    have c39b1 : (t50 != x21_2) = false := bne_eq_false_iff_eq.mpr c39
    clear c39
    (first | rw [c39b0] | (simp only [i64_w, i32_w]; rw [c39b0]) | skip)
    have H' := Am H
    clear H
    go_wp2
    go_roundg k2
    case measure => have := HJ2.out; have := HK2.out; omega
    case rel => exact ⟨(wrap64 (x21_2 + 1)), Xr, H', ⟨by have := HJ2.out; have := HK2.out; omega⟩, B45, B46, ⟨Xi⟩⟩
   have c39b0 : (t50 == x21_2) = false := beq_eq_false_iff_ne.mpr c39
   have c39b1 : (t50 != x21_2) = true := bne_iff_ne.mpr c39
   (first | rw [c39b0] | (simp only [i64_w, i32_w]; rw [c39b0]) | skip)
   obtain rfl := Xsi H
   go_wp2
   go_ret
   exact ⟨Xe, Xi⟩
  replace c30 := Xbf c30
  subst c30
  try rw [if_neg Xft] at H
  obtain rfl := Xsi H
  have hnb40 := NB48_45.out
  have hnc40 := NB45_48.out
  have hnb41 := NB48_46.out
  have hnc41 := NB46_48.out
  obtain ⟨Z42_0, Z42_1, Z42_2⟩ := Xc3 B48
  obtain ⟨F42_0, F42_1, F42_2⟩ := Xf3 B48
  go_wp2_with (first | ((with_reducible refine gate_callee (f := 69) rfl ?_); refine Xgo 27 Tryz.func69 #[.pointer (some ⟨gb45, 0, none⟩), .agg #[.int .i64 ((rd_T39 l1_1 x21_2).f0), .int .i64 ((rd_T39 l1_1 x21_2).f1), .int .i64 ((rd_T39 l1_1 x21_2).f2)]] ?_; (with_reducible refine (impl_Doc_isHold.calls k2 gb45 a0_0 a0_1 A0_2 c0_2 l0_2 ((rd_T39 l1_1 x21_2).f0) ((rd_T39 l1_1 x21_2).f1) ((rd_T39 l1_1 x21_2).f2) false _ ?s1 ?s2 ?s3 A29.out).mono ?_); (case s1 => exact B45.out); (case s2 => exact Xc HR0_2); (case s3 => exact HC0_2.out); rintro e w43 ⟨rfl, hb⟩; refine ⟨_, rfl, ?_⟩; replace B45 := Xbb B45 hb; replace B46 := Xbb B46 hb; replace B48 := Xbb B48 hb; replace HB := Xhb hb; clear hb))
  go_ret
  exact ⟨Xe, Xi⟩
 obtain rfl := Xsi H
 go_wp2
 go_ret
 exact ⟨Xe, Xi⟩
def impl_tableCode.f (k : Nat) (a0_0 : Int) (a0_1 : Int) (l0_2 : List (S113)) (l1_0 : List (S39)) (l1_1 : List (S39)) (a2 : Int) : Option (Int) := (impl_TableOK.f k a0_0 a0_1 l0_2 l1_0 l1_1).bind fun t10 => (if t10 = true then ((impl_isSession.f a2).bind fun t11 => (if t11 = true then (some 0) else (some 4))) else (some 1))
theorem impl_tableCode.calls (k : Nat) (a0_0 : Int) (a0_1 : Int) (A0_2 : Option Addr) (c0_2 : Nat) (l0_2 : List (S113)) (A1_0 : Option Addr) (c1_0 : Nat) (l1_0 : List (S39)) (A1_1 : Option Addr) (c1_1 : Nat) (l1_1 : List (S39)) (a2 : Int) (r : Int) (w : World) (hr0_2 : Kd.C k113 w A0_2 l0_2.length l0_2) (hc0_2 : l0_2.length ≤ c0_2) (hr1_0 : Kd.C k39 w A1_0 l1_0.length l1_0) (hc1_0 : l1_0.length ≤ c1_0) (hr1_1 : Kd.C k39 w A1_1 l1_1.length l1_1) (hc1_1 : l1_1.length ≤ c1_1) (h : impl_tableCode.f k a0_0 a0_1 l0_2 l1_0 l1_1 a2 = some r) :
  Calls Tryz.prog 57 #[.agg #[.int .i64 a0_0, .int .i64 a0_1, .slice A0_2 l0_2.length c0_2], .agg #[.slice A1_0 l1_0.length c1_0, .slice A1_1 l1_1.length c1_1], .int .i64 a2] w fun e w' => e = .returned (.int .i64 r) ∧ Below w.heap.size w w' := by
 have hu35 := Tryz.underlying35
 have hu53 := Tryz.underlying53
 have HR0_2 := Am hr0_2
 have HC0_2 := Am hc0_2
 clear hr0_2 hc0_2
 have HR1_0 := Am hr1_0
 have HC1_0 := Am hc1_0
 clear hr1_0 hc1_0
 have HR1_1 := Am hr1_1
 have HC1_1 := Am hc1_1
 clear hr1_1 hc1_1
 have HB := Am (Below.refl w.heap.size w)
 have H : ((impl_TableOK.f k a0_0 a0_1 l0_2 l1_0 l1_1).bind fun t16 => (if t16 = true then ((impl_isSession.f a2).bind fun t17 => (if t17 = true then (some 0) else (some 4))) else (some 1))) = some r := h
 clear h
 obtain ⟨t16, A4, H⟩ := Xbi H
 try dsimp only at H
 have HC5 := Am H
 clear H
 go_enter Tryz.func57, Tryz.ntmps57
 go_upto_if 7 with (first | ((with_reducible refine gate_dst (N := 3) rfl ?_); refine Xbx 3 #[.int .i64 a0_0, .int .i64 a0_1, .slice A0_2 l0_2.length c0_2] 35 ?_; intro gb18 hg w6 B18 GE18 hb; replace HB := Xhb hb; clear hb hg) | ((with_reducible refine gate_dst (N := 4) rfl ?_); refine Xbx 4 #[.slice A1_0 l1_0.length c1_0, .slice A1_1 l1_1.length c1_1] 53 ?_; intro gb19 hg w7 B19 GE19 hb; replace HB := Xhb hb; have NB18_19 := Xnb hg B18; have NB19_18 := Xns NB18_19; replace B18 := Xbb B18 hb; clear hb hg; have hnb8 := NB18_19.out; have hnc8 := NB19_18.out; obtain ⟨Z9_0, Z9_1, Z9_2⟩ := Xc3 B18; obtain ⟨Z10_0, Z10_1⟩ := Xc2 B19) | ((with_reducible refine gate_callee (f := 106) rfl ?_); refine Xgo 10 Tryz.func106 #[.agg #[.int .i64 a0_0, .int .i64 a0_1, .slice A0_2 l0_2.length c0_2], .agg #[.slice A1_0 l1_0.length c1_0, .slice A1_1 l1_1.length c1_1]] ?_; (with_reducible refine (impl_TableOK.calls k a0_0 a0_1 _ _ l0_2 _ _ l1_0 _ _ l1_1 t16 _ ?s1 ?s2 ?s3 ?s4 ?s5 ?s6 A4.out).mono ?_); (case s1 => exact Xc HR0_2); (case s2 => exact HC0_2.out); (case s3 => exact Xc HR1_0); (case s4 => exact HC1_0.out); (case s5 => exact Xc HR1_1); (case s6 => exact HC1_1.out); rintro e w11 ⟨rfl, hb⟩; refine ⟨_, rfl, ?_⟩; replace B18 := Xbb B18 hb; replace B19 := Xbb B19 hb; replace HB := Xhb hb; clear hb))
 have H := HC5.out
 clear HC5
 by_cases c12 : t16 = true
 ·subst c12
  try rw [if_pos rfl] at H
  obtain ⟨t17, A13, H⟩ := Xbi H
  try dsimp only at H
  have HC14 := Am H
  clear H
  go_upto_if 12 with ((with_reducible refine gate_callee (f := 107) rfl ?_); refine Xgo 14 Tryz.func107 #[.int .i64 a2] ?_; (with_reducible refine (impl_isSession.calls a2 t17 _ A13.out).mono ?_); rintro e w' ⟨rfl, ⟨nd, rfl⟩⟩; refine ⟨_, rfl, ?_⟩)
  have H := HC14.out
  clear HC14
  by_cases c15 : t17 = true
  ·subst c15
   try rw [if_pos rfl] at H
   obtain rfl := Xsi H
   go_wp2
   go_ret
   exact ⟨Xe, Xi⟩
  replace c15 := Xbf c15
  subst c15
  try rw [if_neg Xft] at H
  obtain rfl := Xsi H
  go_wp2
  go_ret
  exact ⟨Xe, Xi⟩
 replace c12 := Xbf c12
 subst c12
 try rw [if_neg Xft] at H
 obtain rfl := Xsi H
 go_wp2
 go_ret
 exact ⟨Xe, Xi⟩
def impl_sessionsOf.l0 : Nat → List Int → List (S39) → Int → Int → Option (List Int)
 | 0, _, _, _, _ => none
 | k + 1, x3, x6, x7, x8 => if x8 < x7 then (if 0 ≤ x8 then (if x8 < (x6.length : Int) then (if x3.length < 17592186044416 then (impl_sessionsOf.l0 k (x3 ++ [(rd_T39 x6 x8).f0]) x6 x7 (wrap64 (x8 + 1))) else (none)) else (none)) else (none)) else ((slices_Sort_int_int.f x3).bind fun t10 => ((slices_Compact_int_int.f t10).bind fun t11 => (some t11)))
def impl_sessionsOf.f (k : Nat) (l0 : List (S39)) : Option (List Int) := impl_sessionsOf.l0 k ([] : List Int) l0 (l0.length : Int) 0
theorem impl_sessionsOf.calls (k : Nat) (A0 : Option Addr) (c0 : Nat) (l0 : List (S39)) (r : List Int) (w : World) (hr0 : Kd.C k39 w A0 l0.length l0) (hc0 : l0.length ≤ c0) (h : impl_sessionsOf.f k l0 = some r) :
  Calls Tryz.prog 94 #[.slice A0 l0.length c0] w fun e w' => ∃ v0_ : Value, e = .returned (v0_) ∧ Kd.R (Kd.int .i64) 3 w' w.heap.size (fun _ => True) v0_ r ∧ Below w.heap.size w w' := by
 have hu39 := Tryz.underlying39
 have HR0 := Am hr0
 have HC0 := Am hc0
 clear hr0 hc0
 have HB := Am (Below.refl w.heap.size w)
 have H : (impl_sessionsOf.l0 k ([] : List Int) l0 (l0.length : Int) 0) = some r := h
 clear h
 have H' := Am H
 clear H
 go_enter Tryz.func94, Tryz.ntmps94
 go_wp2
 go_loopg [3, 8] k (fun kq v3 v8 w' => ∃ (x3_1 : List Int) (x8_1 : Int), v8 = .int .i64 x8_1 ∧ Aside0 (impl_sessionsOf.l0 kq x3_1 l0 (l0.length : Int) x8_1 = some r) ∧ Aside0 (kq ≤ k) ∧ Aside0 (Kd.R (Kd.int .i64) 3 w' w.heap.size (fun _ => True) v3 x3_1) ∧ Aside0 (Below w.heap.size w w'))
 case atStart => exact ⟨(([] : List Int)), (0), Xr, H', Xkr, ⟨by first | exact Kd.R_nil _ _ _ _ _ | exact Kd.N_nil _ _ _ _ _ | exact Kd.V_nil _ _ _ _ _ | exact Kd.Q_nil _ _ _ _ _ | exact Kd.S_nil _ _ _ _ _⟩, ⟨Xi⟩⟩
 clear H'
 obtain ⟨x3_1, x8_1, rfl, HA, HK1, O_3, HB⟩ := hrel
 cases gk with | zero => cases HA.out | succ k1 => ?_
 have H := HA.out
 clear HA
 simp only [impl_sessionsOf.l0] at H
 obtain ⟨c2b0, H⟩ | ⟨c2b0, H⟩ := Xit H
 ·obtain ⟨c3b0, H⟩ := Xid H
  obtain ⟨c4b0, H⟩ := Xid H
  obtain ⟨c5, H⟩ := Xif H
  have LMc5 := Am c5
  clear c5
  obtain ⟨y16, hy16⟩ : ∃ y_ : List Int, y_ = (x3_1 ++ [(rd_T39 l0 x8_1).f0]) := ⟨_, rfl⟩
  replace H : (impl_sessionsOf.l0 k1 y16 l0 (l0.length : Int) (wrap64 (x8_1 + 1))) = some r := by first | (rw [hy16]; with_reducible exact H) | (have H2_ := (Option.bind_some _ _).symm.trans H; rw [hy16]; with_reducible exact H2_) | (have H2_ := (Option.bind_some _ _).symm.trans H; with_reducible exact H2_) | with_reducible exact H | (rw [hy16]; exact H) | exact H
  have Ny16 := Am hy16
  clear hy16
  have H' := Am H
  clear H
  obtain ⟨ad17, e17, p17, q17, hx17_0, hx17_1, hx17_2⟩ := at_B39 HR0 x8_1 Xa Xa HB
  cases e17
  go_wp2_with (first | ((with_reducible refine gate_dst (N := 5) rfl ?_); refine Xbox 5 #[.int .i64 0, .int .i64 0, .int .i64 0] 39 ?_; intro gb18 hg w6 hbox hb; replace O_3 := Am (Kd.R_below (Xq O_3) hb); have B18 := Am (hbox); have GE18 := Xge hg Xi; replace HB := Xhb hb; clear hb hbox hg; obtain ⟨Z7_0, Z7_1, Z7_2⟩ := Xc3 B18; obtain ⟨F7_0, F7_1, F7_2⟩ := Xf3 B18) | ((with_reducible refine gate_store (t := 39) (p := 5) rfl ?_); refine store_event (t := 39) (p := 5) (v := ?vo_w8) (w1 := (((w6.setCell ⟨gb18, 0, none⟩ (.int .i64 ((rd_T39 l0 x8_1).f0))).setCell ⟨gb18, 1, none⟩ (.int .i64 ((rd_T39 l0 x8_1).f1))).setCell ⟨gb18, 2, none⟩ (.int .i64 ((rd_T39 l0 x8_1).f2)))) ?hg ?ho ?hn ?hr ?_; (case ho => rfl); (case hg => rfl); (case hn => rfl); (case hr => first | (go_simp; done) | (go_simp; rfl)); intro w8 hw; have n0_ : Aside0 (Kd.R (Kd.int .i64) 3 w8 w.heap.size (fun _ => True) u3 x3_1) := ⟨(by rw [hw]; exact (by (with_reducible repeat (first | apply Kd.R_alloc | apply Kd.R_drewN | apply Kd.R_drew)); exact Kd.R_mono (Kd.R_far (p := ⟨gb18, 2, none⟩) (Kd.R_far (p := ⟨gb18, 1, none⟩) (Kd.R_far (p := ⟨gb18, 0, none⟩) (Kd.R_types O_3.out B18.out (by decide)) (fun _ hk => hk.2) (.int .i64 ((rd_T39 l0 x8_1).f0))) (fun _ hk => hk.2) (.int .i64 ((rd_T39 l0 x8_1).f1))) (fun _ hk => hk.2) (.int .i64 ((rd_T39 l0 x8_1).f2))) (fun _ hk => trivial)))⟩; have n1_ : Aside0 (w8.heap[gb18]? = some (.cells #[.int .i64 ((rd_T39 l0 x8_1).f0), .int .i64 ((rd_T39 l0 x8_1).f1), .int .i64 ((rd_T39 l0 x8_1).f2)] 39 (0, 0))) := ⟨(by rw [hw]; exact (by refine Xu ?_; refine blk_put (cs := #[.int .i64 ((rd_T39 l0 x8_1).f0), .int .i64 ((rd_T39 l0 x8_1).f1), .int .i64 0]) ?_ 2 _ rfl; refine Xu ?_; refine blk_put (cs := #[.int .i64 ((rd_T39 l0 x8_1).f0), .int .i64 0, .int .i64 0]) ?_ 1 _ rfl; refine Xu ?_; refine blk_put (cs := #[.int .i64 0, .int .i64 0, .int .i64 0]) ?_ 0 _ rfl; refine Xu ?_; exact B18.out))⟩; have n2_ : Aside0 (Below w.heap.size w w8) := ⟨(by rw [hw]; exact Xi)⟩; clear hw; clear O_3; clear B18; clear HB; have O_3 := n0_; have B18 := n1_; have HB := n2_; clear n0_ n1_ n2_; obtain ⟨Z9_0, Z9_1, Z9_2⟩ := Xc3 B18; obtain ⟨F9_0, F9_1, F9_2⟩ := Xf3 B18) | ((with_reducible refine gate_builtin (b := .append) (xs := #[.tmp 12, .tmp 15]) rfl ?_); at_builtin; refine Kd.R_append (Kd.int .i64) (w0 := w) w.heap.size rfl (.tmp 12) (.tmp 15) 30 3 (.int .i64 0) 8 rfl Tryz.underlying30 info3 rfl (by decide) (by omega) u3 x3_1 ((rd_T39 l0 x8_1).f0) [.int .i64 ((rd_T39 l0 x8_1).f0)] (fun _ => True) (fun _ => False) rfl rfl ?aP (fun _ hk => hk.elim) ?aF ?aO ?aB ?aS ?aL ?_; (case aP => exact rfl); (case aB => exact Xi); (case aF => exact (fun _ _ => trivial)); (case aO => exact (Xq O_3)); (case aS => exact (below_size Xi)); (case aL => have := LMc5.out; omega); intro v541 w10 ho hb hg hat; rw [← Ny16.out] at ho; replace B18 := Am (blk_grown (g := gb18) (o := .cells #[.int .i64 ((rd_T39 l0 x8_1).f0), .int .i64 ((rd_T39 l0 x8_1).f1), .int .i64 ((rd_T39 l0 x8_1).f2)] 39 (0, 0)) (Xq' B18) hg (Kd.R_ne O_3.out B18.out (by decide))); replace HB := Am (hb); have HO19 := Am (ho); clear O_3; clear ho hb hg hat))
  go_roundg k1
  case measure => have := HK1.out; omega
  case rel => exact ⟨(y16), (wrap64 (x8_1 + 1)), Xr, H', Xk1, (Xp' HO19), ⟨Xi⟩⟩
 obtain ⟨t20, A11, H⟩ := Xbi H
 try dsimp only at H
 obtain ⟨t21, A12, H⟩ := Xbi H
 try dsimp only at H
 obtain rfl := Xsi H
 obtain ⟨Ao13, co13, eo13⟩ := Kd.R_slice O_3.out
 subst eo13
 go_wp2_with (first | ((with_reducible refine gate_callee (f := 111) rfl ?_); refine Xgo 19 Tryz.func111 #[.slice Ao13 x3_1.length co13] ?_; (with_reducible refine (slices_Sort_int_int.calls (fun k_ => some k_ = (.slice Ao13 x3_1.length co13 : Value).ownBlock) (.slice Ao13 x3_1.length co13) x3_1 t20 w _ ?s1 ?s2 A11.out).mono ?_); (case s1 => exact Xi); (case s2 => exact Kd.R_tight rfl O_3.out); rintro e w14 ⟨rfl, hy0, hb, hkp⟩; refine ⟨_, rfl, ?_⟩; replace O_3 := Am (Kd.R_reok rfl hy0 (fun k_ e_ => O_3.out.1 k_ e_)); replace HB := Am (hb); (try clear hb); (try clear hkp); (try clear hy0)) | ((with_reducible refine gate_callee (f := 112) rfl ?_); refine Xgo 21 Tryz.func112 #[.slice Ao13 x3_1.length co13] ?_; (with_reducible refine (slices_Compact_int_int.calls (fun k_ => some k_ = (.slice Ao13 x3_1.length co13 : Value).ownBlock) (.slice Ao13 x3_1.length co13) t20 t21 w _ ?s1 ?s2 A12.out).mono ?_); (case s1 => exact Xi); (case s2 => exact Kd.R_tight rfl O_3.out); rintro e w15 ⟨v545, rfl, ho0, hb, hkp⟩; refine ⟨_, rfl, ?_⟩; have HO22 := Am (Kd.R_mono (ok' := fun k_ => True) ho0 (fun k_ hk_ => trivial)); replace HB := Am (hb); clear O_3; (try clear hb); (try clear hkp); (try clear ho0)))
 go_ret
 exact ⟨_, Xe, Xq HO22, Xi⟩
def slices_Reverse_int_int.l0 : Nat → List Int → Int → Int → Option (List Int)
 | 0, _, _, _ => none
 | k + 1, x0, x2, x3 => if x2 < x3 then (if 0 ≤ x3 then (if x3 < (x0.length : Int) then (if 0 ≤ x2 then (if x2 < (x0.length : Int) then (slices_Reverse_int_int.l0 k ((x0.set (x2 : Int).toNat (rd x0 x3)).set (x3 : Int).toNat (rd x0 x2)) (wrap64 (x2 + 1)) (wrap64 (x3 - 1))) else (none)) else (none)) else (none)) else (none)) else (some x0)
def slices_Reverse_int_int.f (k : Nat) (l0 : List Int) : Option (List Int) := slices_Reverse_int_int.l0 k l0 0 (wrap64 ((l0.length : Int) - 1))
def slices_Reverse_int_int.T3 : Bool × List (List Nat × List Nat) := (true, [([], []), ([], []), ([], []), ([], []), ([], []), ([], []), ([4, 5], [4, 5]), ([6], [6]), ([], []), ([], []), ([8, 9], [8, 9]), ([10], [10]), ([0, 1, 0, 1, 4, 5, 6, 7, 11], [0, 1]), ([12, 7, 0, 1, 4, 5, 6, 7, 11], [7, 12]), ([2, 3, 0, 1, 2, 3, 4, 5, 6, 7, 8, 9, 10, 11, 12, 13], [2, 3]), ([14, 11, 13, 0, 1, 2, 3, 4, 5, 6, 7, 8, 9, 10, 11, 12, 13], [11, 14])])
def slices_Reverse_int_int.B3 : List Nat := [0, 0, 0, 0, 0, 0, 48, 112, 0, 0, 768, 1792, 4083, 8179, 16383, 32767]
theorem slices_Reverse_int_int.tab3 : rtab .any (opsOf Tryz.f131 3) = slices_Reverse_int_int.T3 := by kernel_rfl
theorem slices_Reverse_int_int.bits3 : waitsOk slices_Reverse_int_int.T3.2 slices_Reverse_int_int.B3 = true := by kernel_rfl
theorem slices_Reverse_int_int.calls (k : Nat) (P0_ : Nat → Prop) (u9000_ : Value) (l0 : List Int) (r : List Int) (w0 w : World) (hB : Below w0.heap.size w0 w) (ho0 : Kd.R (Kd.int .i64) 3 w w0.heap.size P0_ u9000_ l0) (h : slices_Reverse_int_int.f k l0 = some r) :
  Calls Tryz.prog 131 #[u9000_] w fun e w' => e = .returned (.tuple #[]) ∧ Kd.R (Kd.int .i64) 3 w' w0.heap.size (fun k_ => (P0_ k_ ∨ w.heap.size ≤ k_)) u9000_ r ∧ Below w0.heap.size w0 w' ∧ Kept w w' (fun k_ => P0_ k_) := by
 have HO0 := Am (show Kd.R (Kd.int .i64) 3 w w0.heap.size (fun k_ => (P0_ k_ ∨ w.heap.size ≤ k_)) u9000_ l0 from Kd.R_mono ho0 (fun k_ hk => (.inl hk)))
 have HK := Am (Kept.refl w (fun k_ => P0_ k_))
 have HW0 := Am hB.size
 have HB := Am hB
 clear hB
 have H : (slices_Reverse_int_int.l0 k l0 0 (wrap64 ((l0.length : Int) - 1))) = some r := h
 clear h
 have H' := Am H
 clear H
 obtain ⟨Ao2, co2, eo2⟩ := Kd.R_slice HO0.out
 subst eo2
 go_enter Tryz.func131, Tryz.ntmps131
 go_wp2
 go_loopg [2, 3] k (fun kq v2 v3 w' => ∃ (x0_1 : List Int) (x2_1 : Int) (x3_1 : Int), v2 = .int .i64 x2_1 ∧ v3 = .int .i64 x3_1 ∧ Aside0 (slices_Reverse_int_int.l0 kq x0_1 x2_1 x3_1 = some r) ∧ Aside0 (kq ≤ k) ∧ Aside0 (Kd.R (Kd.int .i64) 3 w' w0.heap.size (fun k_ => (P0_ k_ ∨ w.heap.size ≤ k_)) (.slice Ao2 l0.length co2) x0_1) ∧ Aside0 (Kept w w' (fun k_ => P0_ k_)) ∧ Aside0 (Below w0.heap.size w0 w'))
 case atStart => exact ⟨(l0), (0), (wrap64 ((l0.length : Int) - 1)), Xr, Xr, H', Xkr, (Xp' HO0), ⟨by repeat first | (with_reducible first | exact HK.out | apply Kept.drewN | apply Kept.drew) | exact HK.out⟩, ⟨Xi⟩⟩
 clear H'
 obtain ⟨x0_1, x2_1, x3_1, rfl, rfl, HA, HK1, O_0, HK, HB⟩ := hrel
 have hl0_1 := (Kd.R_reads' O_0.out).1
 rw [hl0_1] at O_0
 (try simp only [hl0_1])
 cases gk with | zero => cases HA.out | succ k1 => ?_
 have H := HA.out
 clear HA
 simp only [slices_Reverse_int_int.l0] at H
 obtain ⟨c3b0, H⟩ | ⟨c3b0, H⟩ := Xit H
 ·obtain ⟨c4b0, H⟩ := Xid H
  obtain ⟨c5b0, H⟩ := Xid H
  obtain ⟨c6b0, H⟩ := Xid H
  obtain ⟨c7b0, H⟩ := Xid H
  obtain ⟨y13, hy13⟩ : ∃ y_ : List Int, y_ = (x0_1.set (x2_1 : Int).toNat (rd x0_1 x3_1)) := ⟨_, rfl⟩
  replace H : (slices_Reverse_int_int.l0 k1 (y13.set (x3_1 : Int).toNat (rd x0_1 x2_1)) (wrap64 (x2_1 + 1)) (wrap64 (x3_1 - 1))) = some r := by first | (rw [hy13]; with_reducible exact H) | (have H2_ := (Option.bind_some _ _).symm.trans H; rw [hy13]; with_reducible exact H2_) | (have H2_ := (Option.bind_some _ _).symm.trans H; with_reducible exact H2_) | with_reducible exact H | (rw [hy13]; exact H) | exact H
  have Ny13 := Am hy13
  clear hy13
  obtain ⟨y14, hy14⟩ : ∃ y_ : List Int, y_ = (y13.set (x3_1 : Int).toNat (rd x0_1 x2_1)) := ⟨_, rfl⟩
  replace H : (slices_Reverse_int_int.l0 k1 y14 (wrap64 (x2_1 + 1)) (wrap64 (x3_1 - 1))) = some r := by first | (rw [hy14]; with_reducible exact H) | (have H2_ := (Option.bind_some _ _).symm.trans H; rw [hy14]; with_reducible exact H2_) | (have H2_ := (Option.bind_some _ _).symm.trans H; with_reducible exact H2_) | with_reducible exact H | (rw [hy14]; exact H) | exact H
  have Ny14 := Am hy14
  clear hy14
  have H' := Am H
  clear H
  try go_wp2_with (fail)
  replace O_0 := Am (Kd.R_drew O_0.out)
  replace HK := Am (Kept.drew HK.out)
  replace HB := Xhd HB
  have p15 : 0 ≤ (x3_1 : Int) := Xo
  have q15 : x3_1 < (x0_1.length : Int) := Xo
  obtain ⟨ad15, e15, hx15_0⟩ := Kd.at_int (Kd.R_reads' O_0.out).2.2 x3_1 p15 q15
  cases e15
  replace p15 := eq_true p15
  replace q15 := eq_true q15
  have p16 : 0 ≤ (x2_1 : Int) := Xo
  have q16 : x2_1 < (x0_1.length : Int) := Xo
  obtain ⟨ad16, e16, hx16_0⟩ := Kd.at_int (Kd.R_reads' O_0.out).2.2 x2_1 p16 q16
  obtain rfl : ad15 = ad16 := (by injection e16)
  replace p16 := eq_true p16
  replace q16 := eq_true q16
  have p8 : 0 ≤ (x2_1 : Int) := Xo
  have q8 : (x2_1 : Int) < ((x0_1.length : Int) : Int) := Xo
  obtain ⟨go8, co8, eo8, gb8, gl8, cl8, HG8⟩ := Kd.R_form O_0.out (by omega)
  (first | cases eo8 | (injection eo8 with ea_ en_ ec_; (first | subst ea_ | (injection ea_ with ea_; subst ea_)); subst ec_; clear en_))
  have GB8 := Am gb8
  have GG8 := Am HG8
  clear gb8 gl8 HG8
  have HMgo8 := Am (show (P0_ go8 ∨ w.heap.size ≤ go8) from (O_0.out.1 _ rfl))
  (first | simp only [add_plain] at hx15_0 | skip)
  (first | simp only [add_plain] at hx16_0 | skip)
  obtain ⟨hx8_0, hf8_0⟩ := Kd.R_celln 0 O_0.out (x2_1 : Int) p8 q8
  replace p8 := eq_true p8
  replace q8 := eq_true q8
  have HP11 := Kd.R_putn O_0.out (x2_1 : Int) (rd x0_1 x3_1)
  rw [← Ny13.out] at HP11
  have HQ11 := Am HP11
  clear HP11
  have p9 : 0 ≤ (x3_1 : Int) := Xo
  have q9 : (x3_1 : Int) < ((x0_1.length : Int) : Int) := Xo
  obtain ⟨hx9_0, hf9_0⟩ := Kd.R_celln 0 HQ11.out (x3_1 : Int) p9 q9
  replace p9 := eq_true p9
  replace q9 := eq_true q9
  have HP12 := Kd.R_putn HQ11.out (x3_1 : Int) (rd x0_1 x2_1)
  rw [← Ny14.out] at HP12
  have HQ12 := Am HP12
  clear HP12
  refine start_ (n := 16) (S := fun w' => w'.cell? ⟨go8, (x3_1).toNat, none⟩ = some (.int .i64 (rd x0_1 x3_1)) ∧ w'.cell? ⟨go8, (x2_1).toNat, none⟩ = some (.int .i64 (rd x0_1 x2_1))) (ds := [13, 15]) #[false, false, false, false, false, false, false, false, false, false, false, false, false, false, false, false] (by kernel_rfl) rfl rfl ⟨hx15_0, hx16_0⟩ (fun hHeld => ?_); refine with_tabW slices_Reverse_int_int.tab3 slices_Reverse_int_int.bits3 (fun HT_ HW_ => ?_)
  generalize wr.drew = w10 at O_0 HK HB GG8 HQ11 HQ12 hf8_0 hf9_0 hx15_0 hx16_0 hx8_0 hx9_0 hHeld ⊢
  refine Pu 0 14 16 1 ?_
  refine Pu 1 15 16 3 ?_
  refine Pu 2 16 16 7 ?_
  refine Pu 3 17 16 15 ?_
  refine Pu 4 18 16 31 ?_
  refine Pu 5 19 16 63 ?_
  refine Pu 6 20 16 127 ?_
  refine Pu 8 22 16 383 ?_
  refine Pu 9 23 16 895 ?_
  refine Pu 10 24 16 1919 ?_
  refine Ta 7 21 16 2047 ?_
  refine Ta 11 25 16 4095 ?_
  refine Pu 12 26 16 8191 ?_
  refine last_ (i := 13) (N := none) #[true, true, true, true, true, true, true, true, true, true, true, true, true, true, false, false] rfl rfl (one_of HT_.out (by kernel_rfl)) (by decide) (fun K hK => ?_)
  refine skip_ (w1 := ?_) (by rfl) rfl ?_ ?_
  rotate_left
  ·go_simp
   rfl
  refine hK.out _ _ ?_
  clear hK K
  refine Pu 14 27 16 32767 ?_
  refine last_ (i := 15) (N := none) #[true, true, true, true, true, true, true, true, true, true, true, true, true, true, true, true] rfl rfl (one_of HT_.out (by kernel_rfl)) (by decide) (fun K hK => ?_)
  refine skip_ (w1 := ?_) (by rfl) rfl ?_ ?_
  rotate_left
  ·go_simp
   rfl
  refine hK.out _ _ ?_
  clear hK K
  refine Dn ?_
  try go_wp2_with (fail)
  (try simp only [← hl0_1])
  go_roundg k1
  case measure => have := HK1.out; omega
  case rel => exact ⟨(y14), (wrap64 (x2_1 + 1)), (wrap64 (x3_1 - 1)), Xr, Xr, H', Xk1, ⟨by (try simp only [hl0_1]); (with_reducible repeat (first | apply Kd.R_alloc | apply Kd.R_drewN | apply Kd.R_drew)); exact HQ12.out⟩, ⟨by repeat first | (with_reducible first | exact HK.out | apply Kept.drewN | apply Kept.drew | refine Kept.setCell ?_ HMgo8.out _ | refine Kept.setCell ?_ HMgo8.out _) | exact HK.out⟩, ⟨by repeat first | (with_reducible first | exact HB.out | apply XW.bN | apply XW.bD | refine below_set ?_ GB8.out | refine below_set ?_ GB8.out) | exact HB.out⟩⟩
 obtain rfl := Xsi H
 go_wp2
 first | go_end0 | ((try simp only [Exit.inBlock, Exit.then]); refine bodyPost_ret (results_none rfl _ _ _) rfl ?_)
 exact ⟨Xe, (by first | exact (Xq O_0) | (simp only [hl0_1]; exact (Xq O_0))), Xi, by repeat first | (with_reducible first | exact HK.out | apply Kept.drewN | apply Kept.drew) | exact HK.out⟩
def slices_Index_int_int.l0 : Nat → List Int → Int → Int → Int → Option (Int)
 | 0, _, _, _, _ => none
 | k + 1, x0, x1, x7, x8 => if x8 < x7 then (if 0 ≤ x8 then (if x8 < (x0.length : Int) then (if x1 = (rd x0 x8) then (some x8) else (slices_Index_int_int.l0 k x0 x1 x7 (wrap64 (x8 + 1)))) else (none)) else (none)) else (some (-1))
def slices_Index_int_int.f (k : Nat) (l0 : List Int) (a1 : Int) : Option (Int) := slices_Index_int_int.l0 k l0 a1 (l0.length : Int) 0
theorem slices_Index_int_int.calls (k : Nat) (A0 : Option Addr) (c0 : Nat) (l0 : List Int) (a1 : Int) (r : Int) (w : World) (hr0 : Kd.C (Kd.int .i64) w A0 l0.length l0) (hc0 : l0.length ≤ c0) (h : slices_Index_int_int.f k l0 a1 = some r) :
  Calls Tryz.prog 153 #[.slice A0 l0.length c0, .int .i64 a1] w fun e w' => e = .returned (.int .i64 r) ∧ Drawn0 w w' := by
 have HR0 := Am hr0
 have HC0 := Am hc0
 clear hr0 hc0
 have H : (slices_Index_int_int.l0 k l0 a1 (l0.length : Int) 0) = some r := h
 clear h
 have H' := Am H
 clear H
 go_enter Tryz.func153, Tryz.ntmps153
 go_wp2
 go_loopg [8] k (fun kq v8 w' => ∃ (x8_1 : Int), v8 = .int .i64 x8_1 ∧ Aside0 (slices_Index_int_int.l0 kq l0 a1 (l0.length : Int) x8_1 = some r) ∧ Aside0 (kq ≤ k) ∧ Drawn0 w w')
 case atStart => exact ⟨(0), Xr, H', Xkr, by repeat (first | exact Drawn0.refl _ | apply Drawn0.step)⟩
 clear H'
 obtain ⟨x8_1, rfl, HA, HK1, ⟨m1, rfl⟩⟩ := hrel
 cases gk with | zero => cases HA.out | succ k1 => ?_
 have H := HA.out
 clear HA
 simp only [slices_Index_int_int.l0] at H
 obtain ⟨c3b0, H⟩ | ⟨c3b0, H⟩ := Xit H
 ·obtain ⟨c4b0, H⟩ := Xid H
  obtain ⟨c5b0, H⟩ := Xid H
  obtain ⟨c6, H⟩ | ⟨c6, H⟩ := Xiu H
  ·have c6b0 : (a1 == (rd l0 x8_1)) = true := beq_iff_eq.mpr c6
   have c6b1 : (a1 != (rd l0 x8_1)) = false := bne_eq_false_iff_eq.mpr c6
   clear c6
   obtain rfl := Xsi H
   have p10 : 0 ≤ (x8_1 : Int) := Xo
   have q10 : x8_1 < (l0.length : Int) := Xo
   obtain ⟨ad10, e10, hx10_0⟩ := Kd.at_int HR0.out x8_1 p10 q10
   cases e10
   replace p10 := eq_true p10
   replace q10 := eq_true q10
   go_wp2
   go_ret
   exact ⟨Xr, Xdr⟩
  have c6b0 : (a1 == (rd l0 x8_1)) = false := beq_eq_false_iff_ne.mpr c6
  have c6b1 : (a1 != (rd l0 x8_1)) = true := bne_iff_ne.mpr c6
  have H' := Am H
  clear H
  have p10 : 0 ≤ (x8_1 : Int) := Xo
  have q10 : x8_1 < (l0.length : Int) := Xo
  obtain ⟨ad10, e10, hx10_0⟩ := Kd.at_int HR0.out x8_1 p10 q10
  cases e10
  replace p10 := eq_true p10
  replace q10 := eq_true q10
  go_wp2
  go_roundg k1
  case measure => have := HK1.out; omega
  case rel => exact ⟨(wrap64 (x8_1 + 1)), Xr, H', Xk1, by repeat (first | exact Drawn0.refl _ | apply Drawn0.step)⟩
 obtain rfl := Xsi H
 go_wp2
 go_ret
 exact ⟨Xr, Xdr⟩
def slices_Contains_int_int.f (k : Nat) (l0 : List Int) (a1 : Int) : Option (Bool) := (slices_Index_int_int.f k l0 a1).bind fun t10 => (some (decide (t10 ≥ 0)))
theorem slices_Contains_int_int.calls (k : Nat) (A0 : Option Addr) (c0 : Nat) (l0 : List Int) (a1 : Int) (r : Bool) (w : World) (hr0 : Kd.C (Kd.int .i64) w A0 l0.length l0) (hc0 : l0.length ≤ c0) (h : slices_Contains_int_int.f k l0 a1 = some r) :
  Calls Tryz.prog 116 #[.slice A0 l0.length c0, .int .i64 a1] w fun e w' => e = .returned (.bool r) ∧ Drawn0 w w' := by
 have HR0 := Am hr0
 have HC0 := Am hc0
 clear hr0 hc0
 have H : ((slices_Index_int_int.f k l0 a1).bind fun t10 => (some (decide (t10 ≥ 0)))) = some r := h
 clear h
 obtain ⟨t10, A3, H⟩ := Xbi H
 try dsimp only at H
 obtain rfl := Xsi H
 go_enter Tryz.func116, Tryz.ntmps116
 go_wp2_with (first | ((with_reducible refine gate_callee (f := 153) rfl ?_); refine Xgo 7 Tryz.func153 #[.slice A0 l0.length c0, .int .i64 a1] ?_; (with_reducible refine (slices_Index_int_int.calls k _ _ l0 a1 t10 _ ?s1 ?s2 A3.out).mono ?_); (case s1 => exact Xcd HR0.out); (case s2 => exact HC0.out); rintro e w' ⟨rfl, ⟨nd, rfl⟩⟩; refine ⟨_, rfl, ?_⟩))
 go_ret
 exact ⟨Xr, Xdr⟩
def impl_Doc_parent.l0 : Nat → Int → List (S113) → Int → Int → Option (Int)
 | 0, _, _, _, _ => none
 | k + 1, x1, x10, x11, x12 => if x12 < x11 then (if 0 ≤ x12 then (if x12 < (x10.length : Int) then ((slices_Contains_int_int.f k ((rd_T113 x10 x12).f4) x1).bind fun t13 => (if t13 = true then (some ((rd_T113 x10 x12).f0)) else (impl_Doc_parent.l0 k x1 x10 x11 (wrap64 (x12 + 1))))) else (none)) else (none)) else (some 0)
def impl_Doc_parent.f (k : Nat) (a0_0 : Int) (a0_1 : Int) (l0_2 : List (S113)) (a1 : Int) : Option (Int) := impl_Doc_parent.l0 k a1 l0_2 (l0_2.length : Int) 0
theorem impl_Doc_parent.calls (k : Nat) (g0_ : Nat) (a0_0 : Int) (a0_1 : Int) (A0_2 : Option Addr) (c0_2 : Nat) (l0_2 : List (S113)) (a1 : Int) (r : Int) (w : World) (hg0_ : w.heap[g0_]? = some (.cells #[.int .i64 a0_0, .int .i64 a0_1, .slice A0_2 l0_2.length c0_2] 35 (0, 0))) (hr0_2 : Kd.C k113 w A0_2 l0_2.length l0_2) (hc0_2 : l0_2.length ≤ c0_2) (h : impl_Doc_parent.f k a0_0 a0_1 l0_2 a1 = some r) :
  Calls Tryz.prog 130 #[.pointer (some ⟨g0_, 0, none⟩), .int .i64 a1] w fun e w' => e = .returned (.int .i64 r) ∧ Below w.heap.size w w' := by
 have hu113 := Tryz.underlying113
 have HR0_2 := Am hr0_2
 have HC0_2 := Am hc0_2
 clear hr0_2 hc0_2
 have B0 := Am hg0_
 clear hg0_
 have HB := Am (Below.refl w.heap.size w)
 have H : (impl_Doc_parent.l0 k a1 l0_2 (l0_2.length : Int) 0) = some r := h
 clear h
 have H' := Am H
 clear H
 obtain ⟨Z3_0, Z3_1, Z3_2⟩ := Xc3 B0
 obtain ⟨F3_0, F3_1, F3_2⟩ := Xf3 B0
 go_enter Tryz.func130, Tryz.ntmps130
 go_wp2
 go_loopg [12] k (fun kq v12 w' => ∃ (x12_1 : Int), v12 = .int .i64 x12_1 ∧ Aside0 (impl_Doc_parent.l0 kq a1 l0_2 (l0_2.length : Int) x12_1 = some r) ∧ Aside0 (kq ≤ k) ∧ Aside0 (w'.heap[g0_]? = some (.cells #[.int .i64 a0_0, .int .i64 a0_1, (.slice A0_2 l0_2.length c0_2)] 35 (0, 0))) ∧ Aside0 (Below w.heap.size w w'))
 case atStart => exact ⟨(0), Xr, H', Xkr, B0, ⟨Xi⟩⟩
 clear H'
 (try clear Z3_0); (try clear Z3_1); (try clear Z3_2); (try clear F3_0); (try clear F3_1); (try clear F3_2)
 obtain ⟨x12_1, rfl, HA, HK1, B0, HB⟩ := hrel
 cases gk with | zero => cases HA.out | succ k1 => ?_
 have H := HA.out
 clear HA
 simp only [impl_Doc_parent.l0] at H
 obtain ⟨c4b0, H⟩ | ⟨c4b0, H⟩ := Xit H
 ·obtain ⟨c5b0, H⟩ := Xid H
  obtain ⟨c6b0, H⟩ := Xid H
  obtain ⟨t17, A7, H⟩ := Xbi H
  try dsimp only at H
  have HC8 := Am H
  clear H
  obtain ⟨ad18, A567_4, c567_4, e18, p18, q18, hx18_0, hx18_1, hx18_2, hx18_3, hx18_4, HC18_4, HR18_4⟩ := at_B113 HR0_2 x12_1 Xa Xa HB
  cases e18
  go_upto_if 19 with (first | ((with_reducible refine gate_dst (N := 6) rfl ?_); refine Xbx 6 #[.int .i64 0, .int .i64 0, .int .i64 0, .string (⟨#[]⟩ : ByteArray), .slice none 0 0] 113 ?_; intro gb19 hg w9 B19 GE19 hb; replace HB := Xhb hb; have NB0_19 := Xnb hg B0; have NB19_0 := Xns NB0_19; replace B0 := Xbb B0 hb; clear hb hg; have hnb10 := NB19_0.out; have hnc10 := NB0_19.out; obtain ⟨Z11_0, Z11_1, Z11_2, Z11_3, Z11_4⟩ := Xc5 B19; obtain ⟨F11_0, F11_1, F11_2, F11_3, F11_4⟩ := Xf5 B19) | ((with_reducible refine gate_store (t := 113) (p := 6) rfl ?_); refine store_event (t := 113) (p := 6) (v := ?vo_w12) (w1 := (((((w9.setCell ⟨gb19, 0, none⟩ (.int .i64 ((rd_T113 l0_2 x12_1).f0))).setCell ⟨gb19, 1, none⟩ (.int .i64 ((rd_T113 l0_2 x12_1).f1))).setCell ⟨gb19, 2, none⟩ (.int .i64 ((rd_T113 l0_2 x12_1).f2))).setCell ⟨gb19, 3, none⟩ (.string ((rd_T113 l0_2 x12_1).f3))).setCell ⟨gb19, 4, none⟩ (.slice A567_4 ((rd_T113 l0_2 x12_1).f4).length c567_4))) ?hg ?ho ?hn ?hr ?_; (case ho => rfl); (case hg => rfl); (case hn => rfl); (case hr => first | (go_simp; done) | (go_simp; rfl)); intro w12 hw; have n0_ : Aside0 (w12.heap[g0_]? = some (.cells #[.int .i64 a0_0, .int .i64 a0_1, .slice (some ad18) l0_2.length c0_2] 35 (0, 0))) := ⟨(by rw [hw]; exact (by refine Xu ?_; refine blk_far ?_ NB0_19.out _; refine Xu ?_; refine blk_far ?_ NB0_19.out _; refine Xu ?_; refine blk_far ?_ NB0_19.out _; refine Xu ?_; refine blk_far ?_ NB0_19.out _; refine Xu ?_; refine blk_far ?_ NB0_19.out _; refine Xu ?_; exact B0.out))⟩; have n1_ : Aside0 (w12.heap[gb19]? = some (.cells #[.int .i64 ((rd_T113 l0_2 x12_1).f0), .int .i64 ((rd_T113 l0_2 x12_1).f1), .int .i64 ((rd_T113 l0_2 x12_1).f2), .string ((rd_T113 l0_2 x12_1).f3), .slice A567_4 ((rd_T113 l0_2 x12_1).f4).length c567_4] 113 (0, 0))) := ⟨(by rw [hw]; exact (by refine Xu ?_; refine blk_put (cs := #[.int .i64 ((rd_T113 l0_2 x12_1).f0), .int .i64 ((rd_T113 l0_2 x12_1).f1), .int .i64 ((rd_T113 l0_2 x12_1).f2), .string ((rd_T113 l0_2 x12_1).f3), .slice none 0 0]) ?_ 4 _ rfl; refine Xu ?_; refine blk_put (cs := #[.int .i64 ((rd_T113 l0_2 x12_1).f0), .int .i64 ((rd_T113 l0_2 x12_1).f1), .int .i64 ((rd_T113 l0_2 x12_1).f2), .string (⟨#[]⟩ : ByteArray), .slice none 0 0]) ?_ 3 _ rfl; refine Xu ?_; refine blk_put (cs := #[.int .i64 ((rd_T113 l0_2 x12_1).f0), .int .i64 ((rd_T113 l0_2 x12_1).f1), .int .i64 0, .string (⟨#[]⟩ : ByteArray), .slice none 0 0]) ?_ 2 _ rfl; refine Xu ?_; refine blk_put (cs := #[.int .i64 ((rd_T113 l0_2 x12_1).f0), .int .i64 0, .int .i64 0, .string (⟨#[]⟩ : ByteArray), .slice none 0 0]) ?_ 1 _ rfl; refine Xu ?_; refine blk_put (cs := #[.int .i64 0, .int .i64 0, .int .i64 0, .string (⟨#[]⟩ : ByteArray), .slice none 0 0]) ?_ 0 _ rfl; refine Xu ?_; exact B19.out))⟩; have n2_ : Aside0 (Below w.heap.size w w12) := ⟨(by rw [hw]; exact Xi)⟩; clear hw; clear B0; clear B19; clear HB; have B0 := n0_; have B19 := n1_; have HB := n2_; clear n0_ n1_ n2_; obtain ⟨Z13_0, Z13_1, Z13_2, Z13_3, Z13_4⟩ := Xc5 B19; obtain ⟨F13_0, F13_1, F13_2, F13_3, F13_4⟩ := Xf5 B19) | ((with_reducible refine gate_callee (f := 116) rfl ?_); refine Xgo 19 Tryz.func116 #[.slice A567_4 ((rd_T113 l0_2 x12_1).f4).length c567_4, .int .i64 a1] ?_; (with_reducible refine (slices_Contains_int_int.calls k1 _ _ ((rd_T113 l0_2 x12_1).f4) a1 t17 _ ?s1 ?s2 A7.out).mono ?_); (case s1 => exact Xc HR18_4); (case s2 => exact HC18_4.out); rintro e w' ⟨rfl, ⟨nd, rfl⟩⟩; refine ⟨_, rfl, ?_⟩))
  have H := HC8.out
  clear HC8
  by_cases c14 : t17 = true
  ·subst c14
   try rw [if_pos rfl] at H
   obtain rfl := Xsi H
   have hnb15 := NB19_0.out
   have hnc15 := NB0_19.out
   obtain ⟨Z16_0, Z16_1, Z16_2, Z16_3, Z16_4⟩ := Xc5 B19
   obtain ⟨F16_0, F16_1, F16_2, F16_3, F16_4⟩ := Xf5 B19
   go_wp2
   go_ret
   exact ⟨Xe, Xi⟩
  replace c14 := Xbf c14
  subst c14
  try rw [if_neg Xft] at H
  have H' := Am H
  clear H
  go_wp2
  go_roundg k1
  case measure => have := HK1.out; omega
  case rel => exact ⟨(wrap64 (x12_1 + 1)), Xr, H', Xk1, B0, ⟨Xi⟩⟩
 obtain rfl := Xsi H
 go_wp2
 go_ret
 exact ⟨Xe, Xi⟩
def impl_Doc_path.l0 : Nat → Int → List Int → Int → Int → List (S113) → Option (List Int)
 | 0, _, _, _, _, _ => none
 | k + 1, x1, x5, x1000, x1001, x1002 => if x1 = 0 then ((slices_Reverse_int_int.f k x5).bind fun t10 => (some t10)) else (if x5.length < 17592186044416 then ((impl_Doc_parent.f k x1000 x1001 x1002 x1).bind fun t11 => (impl_Doc_path.l0 k t11 (x5 ++ [x1]) x1000 x1001 x1002)) else (none))
def impl_Doc_path.f (k : Nat) (a0_0 : Int) (a0_1 : Int) (l0_2 : List (S113)) (a1 : Int) : Option (List Int) := impl_Doc_path.l0 k a1 ([] : List Int) a0_0 a0_1 l0_2
theorem impl_Doc_path.calls (k : Nat) (g0_ : Nat) (a0_0 : Int) (a0_1 : Int) (A0_2 : Option Addr) (c0_2 : Nat) (l0_2 : List (S113)) (a1 : Int) (r : List Int) (w : World) (hg0_ : w.heap[g0_]? = some (.cells #[.int .i64 a0_0, .int .i64 a0_1, .slice A0_2 l0_2.length c0_2] 35 (0, 0))) (hr0_2 : Kd.C k113 w A0_2 l0_2.length l0_2) (hc0_2 : l0_2.length ≤ c0_2) (h : impl_Doc_path.f k a0_0 a0_1 l0_2 a1 = some r) :
  Calls Tryz.prog 72 #[.pointer (some ⟨g0_, 0, none⟩), .int .i64 a1] w fun e w' => ∃ v0_ : Value, e = .returned (v0_) ∧ Kd.R (Kd.int .i64) 3 w' w.heap.size (fun _ => True) v0_ r ∧ Below w.heap.size w w' := by
 have HR0_2 := Am hr0_2
 have HC0_2 := Am hc0_2
 clear hr0_2 hc0_2
 have B0 := Am hg0_
 clear hg0_
 have HB := Am (Below.refl w.heap.size w)
 have H : (impl_Doc_path.l0 k a1 ([] : List Int) a0_0 a0_1 l0_2) = some r := h
 clear h
 have H' := Am H
 clear H
 go_enter Tryz.func72, Tryz.ntmps72
 go_wp2
 go_loopg [1, 5] k (fun kq v1 v5 w' => ∃ (x1_1 : Int) (x5_1 : List Int), v1 = .int .i64 x1_1 ∧ Aside0 (impl_Doc_path.l0 kq x1_1 x5_1 a0_0 a0_1 l0_2 = some r) ∧ Aside0 (kq ≤ k) ∧ Aside0 (Kd.R (Kd.int .i64) 3 w' w.heap.size (fun _ => True) v5 x5_1) ∧ Aside0 (w'.heap[g0_]? = some (.cells #[.int .i64 a0_0, .int .i64 a0_1, (.slice A0_2 l0_2.length c0_2)] 35 (0, 0))) ∧ Aside0 (Below w.heap.size w w'))
 case atStart => exact ⟨(a1), (([] : List Int)), Xr, H', Xkr, ⟨by first | exact Kd.R_nil _ _ _ _ _ | exact Kd.N_nil _ _ _ _ _ | exact Kd.V_nil _ _ _ _ _ | exact Kd.Q_nil _ _ _ _ _ | exact Kd.S_nil _ _ _ _ _⟩, (Xp B0), ⟨Xi⟩⟩
 clear H'
 obtain ⟨x1_1, x5_1, rfl, HA, HK1, O_5, B0, HB⟩ := hrel
 cases gk with | zero => cases HA.out | succ k1 => ?_
 have H := HA.out
 clear HA
 simp only [impl_Doc_path.l0] at H
 obtain ⟨c3, H⟩ | ⟨c3, H⟩ := Xiu H
 ·have c3b0 : (x1_1 == 0) = true := beq_iff_eq.mpr c3
  have c3b1 : (x1_1 != 0) = false := bne_eq_false_iff_eq.mpr c3
  clear c3
  obtain ⟨t11, A4, H⟩ := Xbi H
  try dsimp only at H
  obtain rfl := Xsi H
  obtain ⟨Ao5, co5, eo5⟩ := Kd.R_slice O_5.out
  subst eo5
  go_wp2_with (first | ((with_reducible refine gate_callee (f := 131) rfl ?_); refine Xgo 16 Tryz.func131 #[.slice Ao5 x5_1.length co5] ?_; (with_reducible refine (slices_Reverse_int_int.calls k1 (fun k_ => some k_ = (.slice Ao5 x5_1.length co5 : Value).ownBlock) (.slice Ao5 x5_1.length co5) x5_1 t11 w _ ?s1 ?s2 A4.out).mono ?_); (case s1 => exact Xi); (case s2 => exact Kd.R_tight rfl O_5.out); rintro e w6 ⟨rfl, hy0, hb, hkp⟩; refine ⟨_, rfl, ?_⟩; replace B0 := Am (blk_kept (Xq' B0) hkp (fun hs_ => (fun e_ => (Kd.R_ne O_5.out B0.out (by decide)) e_) hs_)); replace O_5 := Am (Kd.R_reok rfl hy0 (fun k_ e_ => O_5.out.1 k_ e_)); replace HB := Am (hb); (try clear hb); (try clear hkp); (try clear hy0)))
  go_ret
  exact ⟨_, Xe, Xq O_5, Xi⟩
 have c3b0 : (x1_1 == 0) = false := beq_eq_false_iff_ne.mpr c3
 have c3b1 : (x1_1 != 0) = true := bne_iff_ne.mpr c3
 obtain ⟨c7, H⟩ | ⟨c7, H⟩ := Xiu H
 ·have LMc7 := Am c7
  clear c7
  obtain ⟨y12, hy12⟩ : ∃ y_ : List Int, y_ = (x5_1 ++ [x1_1]) := ⟨_, rfl⟩
  replace H : ((impl_Doc_parent.f k1 a0_0 a0_1 l0_2 x1_1).bind fun t13 => (impl_Doc_path.l0 k1 t13 y12 a0_0 a0_1 l0_2)) = some r := by first | (rw [hy12]; with_reducible exact H) | (have H2_ := (Option.bind_some _ _).symm.trans H; rw [hy12]; with_reducible exact H2_) | (have H2_ := (Option.bind_some _ _).symm.trans H; with_reducible exact H2_) | with_reducible exact H | (rw [hy12]; exact H) | exact H
  have Ny12 := Am hy12
  clear hy12
  obtain ⟨t13, A8, H⟩ := Xbi H
  try dsimp only at H
  have H' := Am H
  clear H
  go_wp2_with (first | ((with_reducible refine gate_builtin (b := .append) (xs := #[.tmp 11, .tmp 13]) rfl ?_); at_builtin; refine Kd.R_append (Kd.int .i64) (w0 := w) w.heap.size rfl (.tmp 11) (.tmp 13) 30 3 (.int .i64 0) 8 rfl Tryz.underlying30 info3 rfl (by decide) (by omega) u5 x5_1 x1_1 [.int .i64 x1_1] (fun _ => True) (fun _ => False) rfl rfl ?aP (fun _ hk => hk.elim) ?aF ?aO ?aB ?aS ?aL ?_; (case aP => exact rfl); (case aB => exact Xi); (case aF => exact (fun _ _ => trivial)); (case aO => exact (Xq O_5)); (case aS => exact (below_size Xi)); (case aL => have := LMc7.out; omega); intro v572 w9 ho hb hg hat; rw [← Ny12.out] at ho; replace B0 := Am (blk_grown (g := g0_) (o := .cells #[.int .i64 a0_0, .int .i64 a0_1, .slice A0_2 l0_2.length c0_2] 35 (0, 0)) (Xq' B0) hg (Kd.R_ne O_5.out B0.out (by decide))); replace HB := Am (hb); have HO14 := Am (ho); clear O_5; clear ho hb hg hat) | ((with_reducible refine gate_callee (f := 130) rfl ?_); refine Xgo 10 Tryz.func130 #[.pointer (some ⟨g0_, 0, none⟩), .int .i64 x1_1] ?_; (with_reducible refine (impl_Doc_parent.calls k1 g0_ a0_0 a0_1 A0_2 c0_2 l0_2 x1_1 t13 _ ?s1 ?s2 ?s3 A8.out).mono ?_); (case s1 => exact (Xq' B0)); (case s2 => exact Xc HR0_2); (case s3 => exact HC0_2.out); rintro e w10 ⟨rfl, hb⟩; refine ⟨_, rfl, ?_⟩; replace HO14 := Am (Kd.R_below (Xq HO14) hb); replace B0 := Xbb B0 hb; replace HB := Xhb hb; clear hb))
  go_roundg k1
  case measure => have := HK1.out; omega
  case rel => exact ⟨(t13), (y12), Xr, H', Xk1, (Xp' HO14), (Xp B0), ⟨Xi⟩⟩
 exact absurd H (by simp)
def impl_Doc_isIn.f (k : Nat) (a0_0 : Int) (a0_1 : Int) (l0_2 : List (S113)) (a1 : Int) (a2 : Int) : Option (Bool) := (impl_Doc_path.f k a0_0 a0_1 l0_2 a1).bind fun t10 => ((slices_Contains_int_int.f k t10 a2).bind fun t11 => (some t11))
theorem impl_Doc_isIn.calls (k : Nat) (g0_ : Nat) (a0_0 : Int) (a0_1 : Int) (A0_2 : Option Addr) (c0_2 : Nat) (l0_2 : List (S113)) (a1 : Int) (a2 : Int) (r : Bool) (w : World) (hg0_ : w.heap[g0_]? = some (.cells #[.int .i64 a0_0, .int .i64 a0_1, .slice A0_2 l0_2.length c0_2] 35 (0, 0))) (hr0_2 : Kd.C k113 w A0_2 l0_2.length l0_2) (hc0_2 : l0_2.length ≤ c0_2) (h : impl_Doc_isIn.f k a0_0 a0_1 l0_2 a1 a2 = some r) :
  Calls Tryz.prog 165 #[.pointer (some ⟨g0_, 0, none⟩), .int .i64 a1, .int .i64 a2] w fun e w' => e = .returned (.bool r) ∧ Below w.heap.size w w' := by
 have HR0_2 := Am hr0_2
 have HC0_2 := Am hc0_2
 clear hr0_2 hc0_2
 have B0 := Am hg0_
 clear hg0_
 have HB := Am (Below.refl w.heap.size w)
 have H : ((impl_Doc_path.f k a0_0 a0_1 l0_2 a1).bind fun t10 => ((slices_Contains_int_int.f k t10 a2).bind fun t11 => (some t11))) = some r := h
 clear h
 obtain ⟨t10, A4, H⟩ := Xbi H
 try dsimp only at H
 obtain ⟨t11, A5, H⟩ := Xbi H
 try dsimp only at H
 obtain rfl := Xsi H
 go_enter Tryz.func165, Tryz.ntmps165
 go_wp2_with (first | ((with_reducible refine gate_callee (f := 72) rfl ?_); refine Xgo 9 Tryz.func72 #[.pointer (some ⟨g0_, 0, none⟩), .int .i64 a1] ?_; (with_reducible refine (impl_Doc_path.calls k g0_ a0_0 a0_1 A0_2 c0_2 l0_2 a1 t10 _ ?s1 ?s2 ?s3 A4.out).mono ?_); (case s1 => exact B0.out); (case s2 => exact Xcd HR0_2.out); (case s3 => exact HC0_2.out); rintro e w6 ⟨v584, rfl, ho0, hb⟩; refine ⟨_, rfl, ?_⟩; have HO12 := Am (Kd.R_lower ho0 (below_size Xi)); replace B0 := Xbb B0 hb; replace HB := Xhb hb; clear hb; (try clear ho0); obtain ⟨Ao7, co7, eo7⟩ := Kd.R_slice HO12.out; subst eo7) | ((with_reducible refine gate_callee (f := 116) rfl ?_); refine Xgo 11 Tryz.func116 #[.slice Ao7 t10.length co7, .int .i64 a2] ?_; (with_reducible refine (slices_Contains_int_int.calls k _ _ t10 a2 t11 _ ?s1 ?s2 A5.out).mono ?_); (case s1 => exact Xcd (Kd.R_reads' HO12.out).2.2); (case s2 => exact (Kd.R_reads' HO12.out).2.1); rintro e w' ⟨rfl, ⟨nd, rfl⟩⟩; refine ⟨_, rfl, ?_⟩))
 go_ret
 exact ⟨Xe, Xi⟩
def impl_intent.f (a0 : Int) : Option (Int) := if a0 = 0 then (some 0) else (if a0 = 1 then (some 1) else (if a0 = 3 then (some 1) else (some 2)))
theorem impl_intent.calls (a0 : Int) (r : Int) (w : World) (h : impl_intent.f a0 = some r) :
  Calls Tryz.prog 74 #[.int .i64 a0] w fun e w' => e = .returned (.int .i64 r) ∧ Drawn0 w w' := by
 have H : (if a0 = 0 then (some 0) else (if a0 = 1 then (some 1) else (if a0 = 3 then (some 1) else (some 2)))) = some r := h
 clear h
 obtain ⟨c2, H⟩ | ⟨c2, H⟩ := Xiu H
 ·have c2b0 : (a0 == 0) = true := beq_iff_eq.mpr c2
  have c2b1 : (a0 != 0) = false := bne_eq_false_iff_eq.mpr c2
  clear c2
  obtain rfl := Xsi H
  go_enter Tryz.func74, Tryz.ntmps74
  go_wp2
  go_ret
  exact ⟨Xr, Xdr⟩
 have c2b0 : (a0 == 0) = false := beq_eq_false_iff_ne.mpr c2
 have c2b1 : (a0 != 0) = true := bne_iff_ne.mpr c2
 obtain ⟨c3, H⟩ | ⟨c3, H⟩ := Xiu H
 ·have c3b0 : (a0 == 1) = true := beq_iff_eq.mpr c3
  have c3b1 : (a0 != 1) = false := bne_eq_false_iff_eq.mpr c3
  clear c3
  obtain rfl := Xsi H
  go_enter Tryz.func74, Tryz.ntmps74
  go_wp2
  go_ret
  exact ⟨Xr, Xdr⟩
 have c3b0 : (a0 == 1) = false := beq_eq_false_iff_ne.mpr c3
 have c3b1 : (a0 != 1) = true := bne_iff_ne.mpr c3
 obtain ⟨c4, H⟩ | ⟨c4, H⟩ := Xiu H
 ·have c4b0 : (a0 == 3) = true := beq_iff_eq.mpr c4
  have c4b1 : (a0 != 3) = false := bne_eq_false_iff_eq.mpr c4
  clear c4
  obtain rfl := Xsi H
  go_enter Tryz.func74, Tryz.ntmps74
  go_wp2
  go_ret
  exact ⟨Xr, Xdr⟩
 have c4b0 : (a0 == 3) = false := beq_eq_false_iff_ne.mpr c4
 have c4b1 : (a0 != 3) = true := bne_iff_ne.mpr c4
 obtain rfl := Xsi H
 go_enter Tryz.func74, Tryz.ntmps74
 go_wp2
 go_ret
 exact ⟨Xr, Xdr⟩
def impl_Doc_need.f (k : Nat) (a0_0 : Int) (a0_1 : Int) (l0_2 : List (S113)) (a1_0 : Int) (a1_1 : Int) (a1_2 : Int) (a2 : Int) : Option (Int) := if a1_1 = a2 then (some a1_2) else ((impl_Doc_isIn.f k a0_0 a0_1 l0_2 a1_1 a2).bind fun t10 => (if t10 = true then ((impl_intent.f a1_2).bind fun t11 => (some t11)) else (some 0)))
theorem impl_Doc_need.calls (k : Nat) (g0_ : Nat) (a0_0 : Int) (a0_1 : Int) (A0_2 : Option Addr) (c0_2 : Nat) (l0_2 : List (S113)) (a1_0 : Int) (a1_1 : Int) (a1_2 : Int) (a2 : Int) (r : Int) (w : World) (hg0_ : w.heap[g0_]? = some (.cells #[.int .i64 a0_0, .int .i64 a0_1, .slice A0_2 l0_2.length c0_2] 35 (0, 0))) (hr0_2 : Kd.C k113 w A0_2 l0_2.length l0_2) (hc0_2 : l0_2.length ≤ c0_2) (h : impl_Doc_need.f k a0_0 a0_1 l0_2 a1_0 a1_1 a1_2 a2 = some r) :
  Calls Tryz.prog 132 #[.pointer (some ⟨g0_, 0, none⟩), .agg #[.int .i64 a1_0, .int .i64 a1_1, .int .i64 a1_2], .int .i64 a2] w fun e w' => e = .returned (.int .i64 r) ∧ Below w.heap.size w w' := by
 have hu39 := Tryz.underlying39
 have HR0_2 := Am hr0_2
 have HC0_2 := Am hc0_2
 clear hr0_2 hc0_2
 have B0 := Am hg0_
 clear hg0_
 have HB := Am (Below.refl w.heap.size w)
 have H : (if a1_1 = a2 then (some a1_2) else ((impl_Doc_isIn.f k a0_0 a0_1 l0_2 a1_1 a2).bind fun t20 => (if t20 = true then ((impl_intent.f a1_2).bind fun t21 => (some t21)) else (some 0)))) = some r := h
 clear h
 have HC4 := Am H
 clear H
 go_enter Tryz.func132, Tryz.ntmps132
 go_upto_if 7 with ((with_reducible refine gate_dst (N := 4) rfl ?_); refine Xbx 4 #[.int .i64 a1_0, .int .i64 a1_1, .int .i64 a1_2] 39 ?_; intro gb22 hg w5 B22 GE22 hb; replace HB := Xhb hb; have NB0_22 := Xnb hg B0; have NB22_0 := Xns NB0_22; replace B0 := Xbb B0 hb; clear hb hg; have hnb6 := NB22_0.out; have hnc6 := NB0_22.out; obtain ⟨Z7_0, Z7_1, Z7_2⟩ := Xc3 B22)
 have H := HC4.out
 clear HC4
 obtain ⟨c8, H⟩ | ⟨c8, H⟩ := Xiu H
 ·have c8b0 : (a1_1 == a2) = true := beq_iff_eq.mpr c8
  have c8b1 : (a1_1 != a2) = false := bne_eq_false_iff_eq.mpr c8
  clear c8
  (first | rw [c8b0] | (simp only [i64_w, i32_w]; rw [c8b0]) | skip)
  obtain rfl := Xsi H
  have hnb9 := NB22_0.out
  have hnc9 := NB0_22.out
  obtain ⟨Z10_0, Z10_1, Z10_2⟩ := Xc3 B22
  go_wp2
  go_ret
  exact ⟨Xe, Xi⟩
 have c8b0 : (a1_1 == a2) = false := beq_eq_false_iff_ne.mpr c8
 have c8b1 : (a1_1 != a2) = true := bne_iff_ne.mpr c8
 (first | rw [c8b0] | (simp only [i64_w, i32_w]; rw [c8b0]) | skip)
 obtain ⟨t20, A11, H⟩ := Xbi H
 try dsimp only at H
 have HC12 := Am H
 clear H
 have hnb13 := NB22_0.out
 have hnc13 := NB0_22.out
 obtain ⟨Z14_0, Z14_1, Z14_2⟩ := Xc3 B22
 go_upto_if 14 with ((with_reducible refine gate_callee (f := 165) rfl ?_); refine Xgo 19 Tryz.func165 #[.pointer (some ⟨g0_, 0, none⟩), .int .i64 a1_1, .int .i64 a2] ?_; (with_reducible refine (impl_Doc_isIn.calls k g0_ a0_0 a0_1 A0_2 c0_2 l0_2 a1_1 a2 t20 _ ?s1 ?s2 ?s3 A11.out).mono ?_); (case s1 => exact B0.out); (case s2 => exact Xc HR0_2); (case s3 => exact HC0_2.out); rintro e w15 ⟨rfl, hb⟩; refine ⟨_, rfl, ?_⟩; replace B0 := Xbb B0 hb; replace B22 := Xbb B22 hb; replace HB := Xhb hb; clear hb)
 have H := HC12.out
 clear HC12
 by_cases c16 : t20 = true
 ·subst c16
  try rw [if_pos rfl] at H
  obtain ⟨t21, A17, H⟩ := Xbi H
  try dsimp only at H
  obtain rfl := Xsi H
  have hnb18 := NB22_0.out
  have hnc18 := NB0_22.out
  obtain ⟨Z19_0, Z19_1, Z19_2⟩ := Xc3 B22
  go_wp2_with (first | ((with_reducible refine gate_callee (f := 74) rfl ?_); refine Xgo 22 Tryz.func74 #[.int .i64 a1_2] ?_; (with_reducible refine (impl_intent.calls a1_2 t21 _ A17.out).mono ?_); rintro e w' ⟨rfl, ⟨nd, rfl⟩⟩; refine ⟨_, rfl, ?_⟩))
  go_ret
  exact ⟨Xe, Xi⟩
 replace c16 := Xbf c16
 subst c16
 try rw [if_neg Xft] at H
 obtain rfl := Xsi H
 go_wp2
 go_ret
 exact ⟨Xe, Xi⟩
def impl_joined.f (a0 : Int) (a1 : Int) : Option (Int) := if (mn a0 a1) = 2 then (if (mx a0 a1) = 3 then (some 4) else (some (mx a0 a1))) else (some (mx a0 a1))
theorem impl_joined.calls (a0 : Int) (a1 : Int) (r : Int) (w : World) (h : impl_joined.f a0 a1 = some r) :
  Calls Tryz.prog 78 #[.int .i64 a0, .int .i64 a1] w fun e w' => e = .returned (.int .i64 r) ∧ Below w.heap.size w w' := by
 have HB := Am (Below.refl w.heap.size w)
 have H : (if (mn a0 a1) = 2 then (if (mx a0 a1) = 3 then (some 4) else (some (mx a0 a1))) else (some (mx a0 a1))) = some r := h
 clear h
 obtain ⟨ji3, hji3⟩ : ∃ j_ : Int, (mn a0 a1) = j_ := ⟨_, rfl⟩
 replace H : (if (ji3) = 2 then (if (mx a0 a1) = 3 then (some 4) else (some (mx a0 a1))) else (some (mx a0 a1))) = some r := by first | (rw [hji3] at H; exact H) | (simp only [hji3] at H ⊢; exact H)
 have hji3_ : (if a1 < a0 then a1 else a0) = ji3 := hji3
 obtain ⟨c4, H⟩ | ⟨c4, H⟩ := Xiu H
 ·have c4b0 : ((ji3) == 2) = true := beq_iff_eq.mpr c4
  have c4b1 : ((ji3) != 2) = false := bne_eq_false_iff_eq.mpr c4
  clear c4
  obtain ⟨ji5, hji5⟩ : ∃ j_ : Int, (mx a0 a1) = j_ := ⟨_, rfl⟩
  replace H : (if (ji5) = 3 then (some 4) else (some ji5)) = some r := by first | (rw [hji5] at H; exact H) | (simp only [hji5] at H ⊢; exact H)
  have hji5_ : (if a0 < a1 then a1 else a0) = ji5 := hji5
  obtain ⟨c6, H⟩ | ⟨c6, H⟩ := Xiu H
  ·have c6b0 : ((ji5) == 3) = true := beq_iff_eq.mpr c6
   have c6b1 : ((ji5) != 3) = false := bne_eq_false_iff_eq.mpr c6
   clear c6
   obtain rfl := Xsi H
   go_enter Tryz.func78, Tryz.ntmps78
   go_wp2
   go_ret
   exact ⟨by first | rfl | (simp [errW_none, errW_some] <;> rfl) | (simp only [← hji3, ← hji5]; first | rfl | (simp [errW_none, errW_some] <;> rfl)) | (simp [*, errW_none, errW_some] <;> rfl), Xi⟩
  have c6b0 : ((ji5) == 3) = false := beq_eq_false_iff_ne.mpr c6
  have c6b1 : ((ji5) != 3) = true := bne_iff_ne.mpr c6
  obtain rfl := Xsi H
  go_enter Tryz.func78, Tryz.ntmps78
  go_wp2
  go_ret
  exact ⟨by first | rfl | (simp [errW_none, errW_some] <;> rfl) | (simp only [← hji3, ← hji5]; first | rfl | (simp [errW_none, errW_some] <;> rfl)) | (simp [*, errW_none, errW_some] <;> rfl), Xi⟩
 have c4b0 : ((ji3) == 2) = false := beq_eq_false_iff_ne.mpr c4
 have c4b1 : ((ji3) != 2) = true := bne_iff_ne.mpr c4
 obtain ⟨ji7, hji7⟩ : ∃ j_ : Int, (mx a0 a1) = j_ := ⟨_, rfl⟩
 replace H : (some ji7) = some r := by first | (rw [hji7] at H; exact H) | (simp only [hji7] at H ⊢; exact H)
 have hji7_ : (if a0 < a1 then a1 else a0) = ji7 := hji7
 obtain rfl := Xsi H
 go_enter Tryz.func78, Tryz.ntmps78
 go_wp2
 go_ret
 exact ⟨by first | rfl | (simp [errW_none, errW_some] <;> rfl) | (simp only [← hji3, ← hji7]; first | rfl | (simp [errW_none, errW_some] <;> rfl)) | (simp [*, errW_none, errW_some] <;> rfl), Xi⟩
def impl_Doc_mode.l0 : Nat → Int → Int → Int → List (S39) → Int → Int → Int → Int → List (S113) → Option (Int)
 | 0, _, _, _, _, _, _, _, _, _ => none
 | k + 1, x2, x3, x9, x12, x13, x14, x1000, x1001, x1002 => if x14 < x13 then (if 0 ≤ x14 then (if x14 < (x12.length : Int) then (if ((rd_T39 x12 x14).f0) = x2 then ((impl_Doc_need.f k x1000 x1001 x1002 ((rd_T39 x12 x14).f0) ((rd_T39 x12 x14).f1) ((rd_T39 x12 x14).f2) x3).bind fun t10 => ((impl_joined.f x9 t10).bind fun t11 => (impl_Doc_mode.l0 k x2 x3 t11 x12 x13 (wrap64 (x14 + 1)) x1000 x1001 x1002))) else (impl_Doc_mode.l0 k x2 x3 x9 x12 x13 (wrap64 (x14 + 1)) x1000 x1001 x1002)) else (none)) else (none)) else (some x9)
def impl_Doc_mode.f (k : Nat) (a0_0 : Int) (a0_1 : Int) (l0_2 : List (S113)) (l1 : List (S39)) (a2 : Int) (a3 : Int) : Option (Int) := impl_Doc_mode.l0 k a2 a3 0 l1 (l1.length : Int) 0 a0_0 a0_1 l0_2
theorem impl_Doc_mode.calls (k : Nat) (g0_ : Nat) (a0_0 : Int) (a0_1 : Int) (A0_2 : Option Addr) (c0_2 : Nat) (l0_2 : List (S113)) (A1 : Option Addr) (c1 : Nat) (l1 : List (S39)) (a2 : Int) (a3 : Int) (r : Int) (w : World) (hg0_ : w.heap[g0_]? = some (.cells #[.int .i64 a0_0, .int .i64 a0_1, .slice A0_2 l0_2.length c0_2] 35 (0, 0))) (hr0_2 : Kd.C k113 w A0_2 l0_2.length l0_2) (hc0_2 : l0_2.length ≤ c0_2) (hr1 : Kd.C k39 w A1 l1.length l1) (hc1 : l1.length ≤ c1) (h : impl_Doc_mode.f k a0_0 a0_1 l0_2 l1 a2 a3 = some r) :
  Calls Tryz.prog 76 #[.pointer (some ⟨g0_, 0, none⟩), .slice A1 l1.length c1, .int .i64 a2, .int .i64 a3] w fun e w' => e = .returned (.int .i64 r) ∧ Below w.heap.size w w' := by
 have hu39 := Tryz.underlying39
 have HR0_2 := Am hr0_2
 have HC0_2 := Am hc0_2
 clear hr0_2 hc0_2
 have HR1 := Am hr1
 have HC1 := Am hc1
 clear hr1 hc1
 have B0 := Am hg0_
 clear hg0_
 have HB := Am (Below.refl w.heap.size w)
 have H : (impl_Doc_mode.l0 k a2 a3 0 l1 (l1.length : Int) 0 a0_0 a0_1 l0_2) = some r := h
 clear h
 have H' := Am H
 clear H
 go_enter Tryz.func76, Tryz.ntmps76
 go_wp2
 go_loopg [9, 14] k (fun kq v9 v14 w' => ∃ (x9_1 : Int) (x14_1 : Int), v9 = .int .i64 x9_1 ∧ v14 = .int .i64 x14_1 ∧ Aside0 (impl_Doc_mode.l0 kq a2 a3 x9_1 l1 (l1.length : Int) x14_1 a0_0 a0_1 l0_2 = some r) ∧ Aside0 (kq ≤ k) ∧ Aside0 (w'.heap[g0_]? = some (.cells #[.int .i64 a0_0, .int .i64 a0_1, (.slice A0_2 l0_2.length c0_2)] 35 (0, 0))) ∧ Aside0 (Below w.heap.size w w'))
 case atStart => exact ⟨(0), (0), Xr, Xr, H', Xkr, B0, ⟨Xi⟩⟩
 clear H'
 try clear c1
 obtain ⟨x9_1, x14_1, rfl, rfl, HA, HK1, B0, HB⟩ := hrel
 cases gk with | zero => cases HA.out | succ k1 => ?_
 have H := HA.out
 clear HA
 simp only [impl_Doc_mode.l0] at H
 obtain ⟨c5b0, H⟩ | ⟨c5b0, H⟩ := Xit H
 ·obtain ⟨c6b0, H⟩ := Xid H
  obtain ⟨c7b0, H⟩ := Xid H
  have HC8 := Am H
  clear H
  obtain ⟨ad21, e21, p21, q21, hx21_0, hx21_1, hx21_2⟩ := at_B39 HR1 x14_1 Xa Xa HB
  cases e21
  go_upto_if 21 with (first | ((with_reducible refine gate_dst (N := 11) rfl ?_); refine Xbx 11 #[.int .i64 0, .int .i64 0, .int .i64 0] 39 ?_; intro gb22 hg w9 B22 GE22 hb; replace HB := Xhb hb; have NB0_22 := Xnb hg B0; have NB22_0 := Xns NB0_22; replace B0 := Xbb B0 hb; clear hb hg; have hnb10 := NB22_0.out; have hnc10 := NB0_22.out; obtain ⟨Z11_0, Z11_1, Z11_2⟩ := Xc3 B22; obtain ⟨F11_0, F11_1, F11_2⟩ := Xf3 B22) | ((with_reducible refine gate_store (t := 39) (p := 11) rfl ?_); refine store_event (t := 39) (p := 11) (v := ?vo_w12) (w1 := (((w9.setCell ⟨gb22, 0, none⟩ (.int .i64 ((rd_T39 l1 x14_1).f0))).setCell ⟨gb22, 1, none⟩ (.int .i64 ((rd_T39 l1 x14_1).f1))).setCell ⟨gb22, 2, none⟩ (.int .i64 ((rd_T39 l1 x14_1).f2)))) ?hg ?ho ?hn ?hr ?_; (case ho => rfl); (case hg => rfl); (case hn => rfl); (case hr => first | (go_simp; done) | (go_simp; rfl)); intro w12 hw; have n0_ : Aside0 (w12.heap[g0_]? = some (.cells #[.int .i64 a0_0, .int .i64 a0_1, .slice A0_2 l0_2.length c0_2] 35 (0, 0))) := ⟨(by rw [hw]; exact (by refine Xu ?_; refine blk_far ?_ NB0_22.out _; refine Xu ?_; refine blk_far ?_ NB0_22.out _; refine Xu ?_; refine blk_far ?_ NB0_22.out _; refine Xu ?_; exact B0.out))⟩; have n1_ : Aside0 (w12.heap[gb22]? = some (.cells #[.int .i64 ((rd_T39 l1 x14_1).f0), .int .i64 ((rd_T39 l1 x14_1).f1), .int .i64 ((rd_T39 l1 x14_1).f2)] 39 (0, 0))) := ⟨(by rw [hw]; exact (by refine Xu ?_; refine blk_put (cs := #[.int .i64 ((rd_T39 l1 x14_1).f0), .int .i64 ((rd_T39 l1 x14_1).f1), .int .i64 0]) ?_ 2 _ rfl; refine Xu ?_; refine blk_put (cs := #[.int .i64 ((rd_T39 l1 x14_1).f0), .int .i64 0, .int .i64 0]) ?_ 1 _ rfl; refine Xu ?_; refine blk_put (cs := #[.int .i64 0, .int .i64 0, .int .i64 0]) ?_ 0 _ rfl; refine Xu ?_; exact B22.out))⟩; have n2_ : Aside0 (Below w.heap.size w w12) := ⟨(by rw [hw]; exact Xi)⟩; clear hw; clear B0; clear B22; clear HB; have B0 := n0_; have B22 := n1_; have HB := n2_; clear n0_ n1_ n2_; obtain ⟨Z13_0, Z13_1, Z13_2⟩ := Xc3 B22; obtain ⟨F13_0, F13_1, F13_2⟩ := Xf3 B22))
  have H := HC8.out
  clear HC8
  obtain ⟨c14, H⟩ | ⟨c14, H⟩ := Xiu H
  ·have c14b0 : (((rd_T39 l1 x14_1).f0) == a2) = true := beq_iff_eq.mpr c14
   have c14b1 : (((rd_T39 l1 x14_1).f0) != a2) = false := bne_eq_false_iff_eq.mpr c14
   clear c14
   (first | rw [c14b0] | (simp only [i64_w, i32_w]; rw [c14b0]) | skip)
   obtain ⟨t23, A15, H⟩ := Xbi H
   try dsimp only at H
   obtain ⟨t24, A16, H⟩ := Xbi H
   try dsimp only at H
   have H' := Am H
   clear H
   have hnb17 := NB22_0.out
   have hnc17 := NB0_22.out
   obtain ⟨Z18_0, Z18_1, Z18_2⟩ := Xc3 B22
   obtain ⟨F18_0, F18_1, F18_2⟩ := Xf3 B22
   go_wp2_with (first | ((with_reducible refine gate_callee (f := 132) rfl ?_); refine Xgo 26 Tryz.func132 #[.pointer (some ⟨g0_, 0, none⟩), .agg #[.int .i64 ((rd_T39 l1 x14_1).f0), .int .i64 ((rd_T39 l1 x14_1).f1), .int .i64 ((rd_T39 l1 x14_1).f2)], .int .i64 a3] ?_; (with_reducible refine (impl_Doc_need.calls k1 g0_ a0_0 a0_1 A0_2 c0_2 l0_2 ((rd_T39 l1 x14_1).f0) ((rd_T39 l1 x14_1).f1) ((rd_T39 l1 x14_1).f2) a3 t23 _ ?s1 ?s2 ?s3 A15.out).mono ?_); (case s1 => exact B0.out); (case s2 => exact Xc HR0_2); (case s3 => exact HC0_2.out); rintro e w19 ⟨rfl, hb⟩; refine ⟨_, rfl, ?_⟩; replace B0 := Xbb B0 hb; replace B22 := Xbb B22 hb; replace HB := Xhb hb; clear hb) | ((with_reducible refine gate_callee (f := 78) rfl ?_); refine Xgo 27 Tryz.func78 #[.int .i64 x9_1, .int .i64 t23] ?_; (with_reducible refine (impl_joined.calls x9_1 t23 t24 _ A16.out).mono ?_); rintro e w20 ⟨rfl, hb⟩; refine ⟨_, rfl, ?_⟩; replace B0 := Xbb B0 hb; replace B22 := Xbb B22 hb; replace HB := Xhb hb; clear hb))
   go_roundg k1
   case measure => have := HK1.out; omega
   case rel => exact ⟨(t24), (wrap64 (x14_1 + 1)), Xr, Xr, H', Xk1, B0, ⟨Xi⟩⟩
  have c14b0 : (((rd_T39 l1 x14_1).f0) == a2) = false := beq_eq_false_iff_ne.mpr c14
  have c14b1 : (((rd_T39 l1 x14_1).f0) != a2) = true := bne_iff_ne.mpr c14
  (first | rw [c14b0] | (simp only [i64_w, i32_w]; rw [c14b0]) | skip)
  have H' := Am H
  clear H
  go_wp2
  go_roundg k1
  case measure => have := HK1.out; omega
  case rel => exact ⟨(x9_1), (wrap64 (x14_1 + 1)), Xr, Xr, H', Xk1, B0, ⟨Xi⟩⟩
 obtain rfl := Xsi H
 go_wp2
 go_ret
 exact ⟨Xe, Xi⟩
def impl_Doc_wanted.f (k : Nat) (a0_0 : Int) (a0_1 : Int) (l0_2 : List (S113)) (l1 : List (S39)) (a2_0 : Int) (a2_1 : Int) (a2_2 : Int) (a3 : Int) : Option (Int) := (impl_Doc_mode.f k a0_0 a0_1 l0_2 l1 a2_0 a3).bind fun t10 => ((impl_Doc_need.f k a0_0 a0_1 l0_2 a2_0 a2_1 a2_2 a3).bind fun t11 => ((impl_joined.f t10 t11).bind fun t12 => (some t12)))
def impl_Doc_wanted.T1 : Bool × List (List Nat × List Nat) := (true, [([], []), ([], []), ([], []), ([2], [2]), ([], []), ([0, 1, 3, 4], [0, 1, 3, 4]), ([], []), ([], []), ([], []), ([6, 7, 8, 5], [6, 7, 8]), ([5, 9, 9], [5, 9]), ([10, 10, 0, 1, 2, 3, 4, 5, 6, 7, 8, 9, 10], [10])])
def impl_Doc_wanted.B1 : List Nat := [0, 0, 0, 4, 0, 31, 0, 0, 0, 511, 1023, 2047]
theorem impl_Doc_wanted.tab1 : rtab .any (opsOf Tryz.f99 1) = impl_Doc_wanted.T1 := by kernel_rfl
theorem impl_Doc_wanted.bits1 : waitsOk impl_Doc_wanted.T1.2 impl_Doc_wanted.B1 = true := by kernel_rfl
theorem impl_Doc_wanted.calls (k : Nat) (g0_ : Nat) (a0_0 : Int) (a0_1 : Int) (A0_2 : Option Addr) (c0_2 : Nat) (l0_2 : List (S113)) (A1 : Option Addr) (c1 : Nat) (l1 : List (S39)) (a2_0 : Int) (a2_1 : Int) (a2_2 : Int) (a3 : Int) (r : Int) (w : World) (hg0_ : w.heap[g0_]? = some (.cells #[.int .i64 a0_0, .int .i64 a0_1, .slice A0_2 l0_2.length c0_2] 35 (0, 0))) (hr0_2 : Kd.C k113 w A0_2 l0_2.length l0_2) (hc0_2 : l0_2.length ≤ c0_2) (hr1 : Kd.C k39 w A1 l1.length l1) (hc1 : l1.length ≤ c1) (h : impl_Doc_wanted.f k a0_0 a0_1 l0_2 l1 a2_0 a2_1 a2_2 a3 = some r) :
  Calls Tryz.prog 99 #[.pointer (some ⟨g0_, 0, none⟩), .slice A1 l1.length c1, .agg #[.int .i64 a2_0, .int .i64 a2_1, .int .i64 a2_2], .int .i64 a3] w fun e w' => e = .returned (.int .i64 r) ∧ Below w.heap.size w w' := by
 have hu39 := Tryz.underlying39
 have HR0_2 := Am hr0_2
 have HC0_2 := Am hc0_2
 clear hr0_2 hc0_2
 have HR1 := Am hr1
 have HC1 := Am hc1
 clear hr1 hc1
 have B0 := Am hg0_
 clear hg0_
 have HB := Am (Below.refl w.heap.size w)
 have H : ((impl_Doc_mode.f k a0_0 a0_1 l0_2 l1 a2_0 a3).bind fun t13 => ((impl_Doc_need.f k a0_0 a0_1 l0_2 a2_0 a2_1 a2_2 a3).bind fun t14 => ((impl_joined.f t13 t14).bind fun t15 => (some t15)))) = some r := h
 clear h
 obtain ⟨t13, A5, H⟩ := Xbi H
 try dsimp only at H
 obtain ⟨t14, A6, H⟩ := Xbi H
 try dsimp only at H
 obtain ⟨t15, A7, H⟩ := Xbi H
 try dsimp only at H
 obtain rfl := Xsi H
 go_enter Tryz.func99, Tryz.ntmps99
 try go_wp2_with (first | ((with_reducible refine gate_dst (N := 6) rfl ?_); refine Xbx 6 #[.int .i64 a2_0, .int .i64 a2_1, .int .i64 a2_2] 39 ?_; intro gb16 hg w8 B16 GE16 hb; replace HB := Xhb hb; have NB0_16 := Xnb hg B0; have NB16_0 := Xns NB0_16; replace B0 := Xbb B0 hb; clear hb hg))
 replace B0 := Xbd B0
 replace B16 := Xbd B16
 replace HB := Xhd HB
 refine Sx 12 (fun w' => w'.cell? ⟨gb16, 0, none⟩ = some (.int .i64 a2_0) ∧ w'.cell? ⟨gb16, 1, none⟩ = some (.int .i64 a2_1) ∧ w'.cell? ⟨gb16, 2, none⟩ = some (.int .i64 a2_2)) ⟨Xk B16 0, Xk B16 1, Xk B16 2⟩ (fun hHeld => ?_); refine with_tabW impl_Doc_wanted.tab1 impl_Doc_wanted.bits1 (fun HT_ HW_ => ?_)
 generalize w8.drew = w9 at B0 B16 HB hHeld ⊢
 refine Pu 0 9 12 1 ?_
 refine Pu 1 10 12 3 ?_
 refine Pu 2 11 12 7 ?_
 refine Pu 4 13 12 23 ?_
 refine Pu 6 15 12 87 ?_
 refine Pu 8 17 12 343 ?_
 refine Ta 3 12 12 351 ?_
 refine Ta 7 16 12 479 ?_
 refine On 5 14 12 511 (fun K hK => ?_)
 refine Gs Tryz.func76 #[.pointer (some ⟨g0_, 0, none⟩), .slice A1 l1.length c1, .int .i64 a2_0, .int .i64 a3] ?_
 with_reducible refine (impl_Doc_mode.calls k g0_ a0_0 a0_1 A0_2 c0_2 l0_2 _ _ l1 a2_0 a3 t13 _ ?s1 ?s2 ?s3 ?s4 ?s5 A5.out).mono ?_
 (case s1 => exact B0.out)
 (case s2 => exact Xc HR0_2)
 (case s3 => exact HC0_2.out)
 (case s4 => exact Xc HR1)
 (case s5 => exact HC1.out)
 rintro e w10 ⟨rfl, hb⟩
 refine ⟨_, rfl, ?_⟩
 replace B0 := Xbb B0 hb
 replace B16 := Xbb B16 hb
 replace HB := Xhb hb
 try clear hb
 try clear hb2
 try clear hk
 try clear hi
 refine hK.out _ _ ⟨Xk B16 0, Xk B16 1, Xk B16 2⟩ (fun hHeld => ?_)
 clear hK K
 refine Xno ?_
 refine On 9 18 12 1023 (fun K hK => ?_)
 refine Gs Tryz.func132 #[.pointer (some ⟨g0_, 0, none⟩), .agg #[.int .i64 a2_0, .int .i64 a2_1, .int .i64 a2_2], .int .i64 a3] ?_
 with_reducible refine (impl_Doc_need.calls k g0_ a0_0 a0_1 A0_2 c0_2 l0_2 a2_0 a2_1 a2_2 a3 t14 _ ?s1 ?s2 ?s3 A6.out).mono ?_
 (case s1 => exact B0.out)
 (case s2 => exact Xc HR0_2)
 (case s3 => exact HC0_2.out)
 rintro e w11 ⟨rfl, hb⟩
 refine ⟨_, rfl, ?_⟩
 replace B0 := Xbb B0 hb
 replace B16 := Xbb B16 hb
 replace HB := Xhb hb
 try clear hb
 try clear hb2
 try clear hk
 try clear hi
 refine hK.out _ _ ⟨Xk B16 0, Xk B16 1, Xk B16 2⟩ (fun hHeld => ?_)
 clear hK K
 refine Xno ?_
 refine On 10 19 12 2047 (fun K hK => ?_)
 refine Gs Tryz.func78 #[.int .i64 t13, .int .i64 t14] ?_
 with_reducible refine (impl_joined.calls t13 t14 t15 _ A7.out).mono ?_
 rintro e w12 ⟨rfl, hb⟩
 refine ⟨_, rfl, ?_⟩
 replace B0 := Xbb B0 hb
 replace B16 := Xbb B16 hb
 replace HB := Xhb hb
 try clear hb
 try clear hb2
 try clear hk
 try clear hi
 refine hK.out _ _ ⟨Xk B16 0, Xk B16 1, Xk B16 2⟩ (fun hHeld => ?_)
 clear hK K
 refine Xno ?_
 refine Pu 11 8 12 4095 ?_
 refine Dn ?_
 try go_wp2_with (fail)
 go_ret
 exact ⟨Xe, Xi⟩
def impl_compatible.f (a0 : Int) (a1 : Int) : Option (Bool) := if (mn a0 a1) = 0 then (some true) else (if (mn a0 a1) = 1 then (some ((mx a0 a1) != 5)) else (if (mn a0 a1) = 2 then (some ((mx a0 a1) == 2)) else (if (mn a0 a1) = 3 then (some ((mx a0 a1) == 3)) else (some false))))
theorem impl_compatible.calls (a0 : Int) (a1 : Int) (r : Bool) (w : World) (h : impl_compatible.f a0 a1 = some r) :
  Calls Tryz.prog 98 #[.int .i64 a0, .int .i64 a1] w fun e w' => e = .returned (.bool r) ∧ Below w.heap.size w w' := by
 have HB := Am (Below.refl w.heap.size w)
 have H : (if (mn a0 a1) = 0 then (some true) else (if (mn a0 a1) = 1 then (some ((mx a0 a1) != 5)) else (if (mn a0 a1) = 2 then (some ((mx a0 a1) == 2)) else (if (mn a0 a1) = 3 then (some ((mx a0 a1) == 3)) else (some false))))) = some r := h
 clear h
 obtain ⟨ji3, hji3⟩ : ∃ j_ : Int, (mn a0 a1) = j_ := ⟨_, rfl⟩
 replace H : (if (ji3) = 0 then (some true) else (if (ji3) = 1 then (some ((mx a0 a1) != 5)) else (if (ji3) = 2 then (some ((mx a0 a1) == 2)) else (if (ji3) = 3 then (some ((mx a0 a1) == 3)) else (some false))))) = some r := by first | (rw [hji3] at H; exact H) | (simp only [hji3] at H ⊢; exact H)
 have hji3_ : (if a1 < a0 then a1 else a0) = ji3 := hji3
 obtain ⟨ji4, hji4⟩ : ∃ j_ : Int, (mx a0 a1) = j_ := ⟨_, rfl⟩
 replace H : (if (ji3) = 0 then (some true) else (if (ji3) = 1 then (some ((ji4) != 5)) else (if (ji3) = 2 then (some ((ji4) == 2)) else (if (ji3) = 3 then (some ((ji4) == 3)) else (some false))))) = some r := by first | (rw [hji4] at H; exact H) | (simp only [hji4] at H ⊢; exact H)
 have hji4_ : (if a0 < a1 then a1 else a0) = ji4 := hji4
 obtain ⟨c5, H⟩ | ⟨c5, H⟩ := Xiu H
 ·have c5b0 : ((ji3) == 0) = true := beq_iff_eq.mpr c5
  have c5b1 : ((ji3) != 0) = false := bne_eq_false_iff_eq.mpr c5
  clear c5
  obtain rfl := Xsi H
  go_enter Tryz.func98, Tryz.ntmps98
  go_wp2
  go_ret
  exact ⟨by first | rfl | (simp [errW_none, errW_some] <;> rfl) | (simp only [← hji3, ← hji4]; first | rfl | (simp [errW_none, errW_some] <;> rfl)) | (simp [*, errW_none, errW_some] <;> rfl), Xi⟩
 have c5b0 : ((ji3) == 0) = false := beq_eq_false_iff_ne.mpr c5
 have c5b1 : ((ji3) != 0) = true := bne_iff_ne.mpr c5
 obtain ⟨c6, H⟩ | ⟨c6, H⟩ := Xiu H
 ·have c6b0 : ((ji3) == 1) = true := beq_iff_eq.mpr c6
  have c6b1 : ((ji3) != 1) = false := bne_eq_false_iff_eq.mpr c6
  clear c6
  obtain rfl := Xsi H
  go_enter Tryz.func98, Tryz.ntmps98
  go_wp2
  go_ret
  exact ⟨by first | rfl | (simp [errW_none, errW_some] <;> rfl) | (simp only [← hji3, ← hji4]; first | rfl | (simp [errW_none, errW_some] <;> rfl)) | (simp [*, errW_none, errW_some] <;> rfl), Xi⟩
 have c6b0 : ((ji3) == 1) = false := beq_eq_false_iff_ne.mpr c6
 have c6b1 : ((ji3) != 1) = true := bne_iff_ne.mpr c6
 obtain ⟨c7, H⟩ | ⟨c7, H⟩ := Xiu H
 ·have c7b0 : ((ji3) == 2) = true := beq_iff_eq.mpr c7
  have c7b1 : ((ji3) != 2) = false := bne_eq_false_iff_eq.mpr c7
  clear c7
  obtain rfl := Xsi H
  go_enter Tryz.func98, Tryz.ntmps98
  go_wp2
  go_ret
  exact ⟨by first | rfl | (simp [errW_none, errW_some] <;> rfl) | (simp only [← hji3, ← hji4]; first | rfl | (simp [errW_none, errW_some] <;> rfl)) | (simp [*, errW_none, errW_some] <;> rfl), Xi⟩
 have c7b0 : ((ji3) == 2) = false := beq_eq_false_iff_ne.mpr c7
 have c7b1 : ((ji3) != 2) = true := bne_iff_ne.mpr c7
 obtain ⟨c8, H⟩ | ⟨c8, H⟩ := Xiu H
 ·have c8b0 : ((ji3) == 3) = true := beq_iff_eq.mpr c8
  have c8b1 : ((ji3) != 3) = false := bne_eq_false_iff_eq.mpr c8
  clear c8
  obtain rfl := Xsi H
  go_enter Tryz.func98, Tryz.ntmps98
  go_wp2
  go_ret
  exact ⟨by first | rfl | (simp [errW_none, errW_some] <;> rfl) | (simp only [← hji3, ← hji4]; first | rfl | (simp [errW_none, errW_some] <;> rfl)) | (simp [*, errW_none, errW_some] <;> rfl), Xi⟩
 have c8b0 : ((ji3) == 3) = false := beq_eq_false_iff_ne.mpr c8
 have c8b1 : ((ji3) != 3) = true := bne_iff_ne.mpr c8
 obtain rfl := Xsi H
 go_enter Tryz.func98, Tryz.ntmps98
 go_wp2
 go_ret
 exact ⟨by first | rfl | (simp [errW_none, errW_some] <;> rfl) | (simp only [← hji3, ← hji4]; first | rfl | (simp [errW_none, errW_some] <;> rfl)) | (simp [*, errW_none, errW_some] <;> rfl), Xi⟩
def impl_Doc_conflicts_1_1.f (k : Nat) (a0 : Int) (a1_0 : Int) (a1_1 : Int) (l1_2 : List (S113)) (l2_0 : List (S39)) (a3_0 : Int) (a4_0 : Int) (a4_1 : Int) (a4_2 : Int) : Option (Bool) := (impl_Doc_mode.f k a1_0 a1_1 l1_2 l2_0 a3_0 a0).bind fun t10 => ((impl_Doc_wanted.f k a1_0 a1_1 l1_2 l2_0 a4_0 a4_1 a4_2 a0).bind fun t11 => ((impl_compatible.f t10 t11).bind fun t12 => (some (!t12))))
def impl_Doc_conflicts_1_1.T1 : Bool × List (List Nat × List Nat) := (true, [([], []), ([], []), ([], []), ([], []), ([0, 1, 2, 3], [0, 1, 2, 3]), ([], []), ([], []), ([], []), ([], []), ([5, 6, 7, 8, 4], [5, 6, 7, 8]), ([4, 9, 9], [4, 9]), ([10], [10]), ([11, 10, 0, 1, 2, 3, 4, 5, 6, 7, 8, 9, 10, 11], [11])])
def impl_Doc_conflicts_1_1.B1 : List Nat := [0, 0, 0, 0, 15, 0, 0, 0, 0, 511, 1023, 2047, 4095]
theorem impl_Doc_conflicts_1_1.tab1 : rtab .any (opsOf Tryz.f97 1) = impl_Doc_conflicts_1_1.T1 := by kernel_rfl
theorem impl_Doc_conflicts_1_1.bits1 : waitsOk impl_Doc_conflicts_1_1.T1.2 impl_Doc_conflicts_1_1.B1 = true := by kernel_rfl
theorem impl_Doc_conflicts_1_1.calls (k : Nat) (a0 : Int) (g1_ : Nat) (q1_ : Nat) (a1_0 : Int) (a1_1 : Int) (A1_2 : Option Addr) (c1_2 : Nat) (l1_2 : List (S113)) (g2_ : Nat) (A2_0 : Option Addr) (c2_0 : Nat) (l2_0 : List (S39)) (g3_ : Nat) (a3_0 : Int) (g4_ : Nat) (a4_0 : Int) (a4_1 : Int) (a4_2 : Int) (r : Bool) (w : World) (hq1_ : w.heap[q1_]? = some (.cells #[.int .i64 a1_0, .int .i64 a1_1, .slice A1_2 l1_2.length c1_2] 35 (0, 0))) (hg1_ : w.heap[g1_]? = some (.cells #[.pointer (some ⟨q1_, 0, none⟩)] 115 (0, 0))) (hr1_2 : Kd.C k113 w A1_2 l1_2.length l1_2) (hc1_2 : l1_2.length ≤ c1_2) (hg2_ : w.heap[g2_]? = some (.cells #[.slice A2_0 l2_0.length c2_0] 37 (0, 0))) (hr2_0 : Kd.C k39 w A2_0 l2_0.length l2_0) (hc2_0 : l2_0.length ≤ c2_0) (hg3_ : w.heap[g3_]? = some (.cells #[.int .i64 a3_0] 3 (0, 0))) (hg4_ : w.heap[g4_]? = some (.cells #[.int .i64 a4_0, .int .i64 a4_1, .int .i64 a4_2] 39 (0, 0))) (h : impl_Doc_conflicts_1_1.f k a0 a1_0 a1_1 l1_2 l2_0 a3_0 a4_0 a4_1 a4_2 = some r) :
  Calls Tryz.prog 97 #[.int .i64 a0, .pointer (some ⟨g1_, 0, none⟩), .pointer (some ⟨g2_, 0, none⟩), .pointer (some ⟨g3_, 0, none⟩), .pointer (some ⟨g4_, 0, none⟩)] w fun e w' => e = .returned (.bool r) ∧ Below w.heap.size w w' := by
 have hu39 := Tryz.underlying39
 have HR1_2 := Am hr1_2
 have HC1_2 := Am hc1_2
 clear hr1_2 hc1_2
 have HR2_0 := Am hr2_0
 have HC2_0 := Am hc2_0
 clear hr2_0 hc2_0
 have B81 := Am hq1_
 clear hq1_
 have B1 := Am hg1_
 clear hg1_
 have B2 := Am hg2_
 clear hg2_
 have B3 := Am hg3_
 clear hg3_
 have B4 := Am hg4_
 clear hg4_
 have HB := Am (Below.refl w.heap.size w)
 have H : ((impl_Doc_mode.f k a1_0 a1_1 l1_2 l2_0 a3_0 a0).bind fun t13 => ((impl_Doc_wanted.f k a1_0 a1_1 l1_2 l2_0 a4_0 a4_1 a4_2 a0).bind fun t14 => ((impl_compatible.f t13 t14).bind fun t15 => (some (!t15))))) = some r := h
 clear h
 obtain ⟨t13, A6, H⟩ := Xbi H
 try dsimp only at H
 obtain ⟨t14, A7, H⟩ := Xbi H
 try dsimp only at H
 obtain ⟨t15, A8, H⟩ := Xbi H
 try dsimp only at H
 obtain rfl := Xsi H
 go_enter Tryz.func97, Tryz.ntmps97
 try go_wp2_with (fail)
 replace B81 := Xbd B81
 replace B1 := Xbd B1
 replace B2 := Xbd B2
 replace B3 := Xbd B3
 replace B4 := Xbd B4
 replace HB := Xhd HB
 refine Sx 13 (fun w' => w'.cell? ⟨g1_, 0, none⟩ = some (.pointer (some ⟨q1_, 0, none⟩)) ∧ w'.cell? ⟨g2_, 0, none⟩ = some (.slice A2_0 l2_0.length c2_0) ∧ w'.cell? ⟨g3_, 0, none⟩ = some (.int .i64 a3_0) ∧ w'.cell? ⟨g4_, 0, none⟩ = some (.int .i64 a4_0) ∧ w'.cell? ⟨g4_, 1, none⟩ = some (.int .i64 a4_1) ∧ w'.cell? ⟨g4_, 2, none⟩ = some (.int .i64 a4_2)) ⟨Xk B1 0, Xk B2 0, Xk B3 0, Xk B4 0, Xk B4 1, Xk B4 2⟩ (fun hHeld => ?_); refine with_tabW impl_Doc_conflicts_1_1.tab1 impl_Doc_conflicts_1_1.bits1 (fun HT_ HW_ => ?_)
 generalize w.drew = w9 at B81 B1 B2 B3 B4 HB hHeld ⊢
 refine Pu 3 10 13 8 ?_
 refine Pu 8 15 13 264 ?_
 refine Ta 0 7 13 265 ?_
 refine Ta 1 8 13 267 ?_
 refine Ta 2 9 13 271 ?_
 refine Ta 5 12 13 303 ?_
 refine Ta 6 13 13 367 ?_
 refine Ta 7 14 13 495 ?_
 refine On 4 11 13 511 (fun K hK => ?_)
 refine Gs Tryz.func76 #[.pointer (some ⟨q1_, 0, none⟩), .slice A2_0 l2_0.length c2_0, .int .i64 a3_0, .int .i64 a0] ?_
 with_reducible refine (impl_Doc_mode.calls k q1_ a1_0 a1_1 A1_2 c1_2 l1_2 _ _ l2_0 a3_0 a0 t13 _ ?s1 ?s2 ?s3 ?s4 ?s5 A6.out).mono ?_
 (case s1 => exact B81.out)
 (case s2 => exact Xc HR1_2)
 (case s3 => exact HC1_2.out)
 (case s4 => exact Xc HR2_0)
 (case s5 => exact HC2_0.out)
 rintro e w10 ⟨rfl, hb⟩
 refine ⟨_, rfl, ?_⟩
 replace B81 := Xbb B81 hb
 replace B1 := Xbb B1 hb
 replace B2 := Xbb B2 hb
 replace B3 := Xbb B3 hb
 replace B4 := Xbb B4 hb
 replace HB := Xhb hb
 try clear hb
 try clear hb2
 try clear hk
 try clear hi
 refine hK.out _ _ ⟨Xk B1 0, Xk B2 0, Xk B3 0, Xk B4 0, Xk B4 1, Xk B4 2⟩ (fun hHeld => ?_)
 clear hK K
 refine Xno ?_
 refine On 9 16 13 1023 (fun K hK => ?_)
 refine Gs Tryz.func99 #[.pointer (some ⟨q1_, 0, none⟩), .slice A2_0 l2_0.length c2_0, .agg #[.int .i64 a4_0, .int .i64 a4_1, .int .i64 a4_2], .int .i64 a0] ?_
 with_reducible refine (impl_Doc_wanted.calls k q1_ a1_0 a1_1 A1_2 c1_2 l1_2 _ _ l2_0 a4_0 a4_1 a4_2 a0 t14 _ ?s1 ?s2 ?s3 ?s4 ?s5 A7.out).mono ?_
 (case s1 => exact B81.out)
 (case s2 => exact Xc HR1_2)
 (case s3 => exact HC1_2.out)
 (case s4 => exact Xc HR2_0)
 (case s5 => exact HC2_0.out)
 rintro e w11 ⟨rfl, hb⟩
 refine ⟨_, rfl, ?_⟩
 replace B81 := Xbb B81 hb
 replace B1 := Xbb B1 hb
 replace B2 := Xbb B2 hb
 replace B3 := Xbb B3 hb
 replace B4 := Xbb B4 hb
 replace HB := Xhb hb
 try clear hb
 try clear hb2
 try clear hk
 try clear hi
 refine hK.out _ _ ⟨Xk B1 0, Xk B2 0, Xk B3 0, Xk B4 0, Xk B4 1, Xk B4 2⟩ (fun hHeld => ?_)
 clear hK K
 refine Xno ?_
 refine On 10 17 13 2047 (fun K hK => ?_)
 refine Gs Tryz.func98 #[.int .i64 t13, .int .i64 t14] ?_
 with_reducible refine (impl_compatible.calls t13 t14 t15 _ A8.out).mono ?_
 rintro e w12 ⟨rfl, hb⟩
 refine ⟨_, rfl, ?_⟩
 replace B81 := Xbb B81 hb
 replace B1 := Xbb B1 hb
 replace B2 := Xbb B2 hb
 replace B3 := Xbb B3 hb
 replace B4 := Xbb B4 hb
 replace HB := Xhb hb
 try clear hb
 try clear hb2
 try clear hk
 try clear hi
 refine hK.out _ _ ⟨Xk B1 0, Xk B2 0, Xk B3 0, Xk B4 0, Xk B4 1, Xk B4 2⟩ (fun hHeld => ?_)
 clear hK K
 refine Xno ?_
 refine Pu 11 18 13 4095 ?_
 refine Pu 12 6 13 8191 ?_
 refine Dn ?_
 try go_wp2_with (fail)
 go_ret
 exact ⟨Xe, Xi⟩
def slices_IndexFunc_int_int_at_impl_Doc_conflicts_1_1.l0 : Nat → List Int → Int → Int → List (S39) → Int → Int → Int → Int → Int → Int → List (S113) → Option (Int)
 | 0, _, _, _, _, _, _, _, _, _, _, _ => none
 | k + 1, x0, x7, x8, x27000, x28000, x29000, x29001, x29002, x56000, x56001, x56002 => if x8 < x7 then (if 0 ≤ x8 then (if x8 < (x0.length : Int) then ((impl_Doc_conflicts_1_1.f k (rd x0 x8) x56000 x56001 x56002 x27000 x28000 x29000 x29001 x29002).bind fun t10 => (if t10 = true then (some x8) else (slices_IndexFunc_int_int_at_impl_Doc_conflicts_1_1.l0 k x0 x7 (wrap64 (x8 + 1)) x27000 x28000 x29000 x29001 x29002 x56000 x56001 x56002))) else (none)) else (none)) else (some (-1))
def slices_IndexFunc_int_int_at_impl_Doc_conflicts_1_1.f (k : Nat) (l0 : List Int) (a1_0_0 : Int) (a1_0_1 : Int) (l1_0_2 : List (S113)) (l1_1_0 : List (S39)) (a1_2_0 : Int) (a1_3_0 : Int) (a1_3_1 : Int) (a1_3_2 : Int) : Option (Int) := slices_IndexFunc_int_int_at_impl_Doc_conflicts_1_1.l0 k l0 (l0.length : Int) 0 l1_1_0 a1_2_0 a1_3_0 a1_3_1 a1_3_2 a1_0_0 a1_0_1 l1_0_2
theorem slices_IndexFunc_int_int_at_impl_Doc_conflicts_1_1.calls (k : Nat) (A0 : Option Addr) (c0 : Nat) (l0 : List Int) (g1_0_ : Nat) (q1_0_ : Nat) (g1_1_ : Nat) (g1_2_ : Nat) (g1_3_ : Nat) (a1_0_0 : Int) (a1_0_1 : Int) (A1_0_2 : Option Addr) (c1_0_2 : Nat) (l1_0_2 : List (S113)) (A1_1_0 : Option Addr) (c1_1_0 : Nat) (l1_1_0 : List (S39)) (a1_2_0 : Int) (a1_3_0 : Int) (a1_3_1 : Int) (a1_3_2 : Int) (r : Int) (w : World) (hr0 : Kd.C (Kd.int .i64) w A0 l0.length l0) (hc0 : l0.length ≤ c0) (hq1_0_ : w.heap[q1_0_]? = some (.cells #[.int .i64 a1_0_0, .int .i64 a1_0_1, .slice A1_0_2 l1_0_2.length c1_0_2] 35 (0, 0))) (hg1_0_ : w.heap[g1_0_]? = some (.cells #[.pointer (some ⟨q1_0_, 0, none⟩)] 115 (0, 0))) (hg1_1_ : w.heap[g1_1_]? = some (.cells #[.slice A1_1_0 l1_1_0.length c1_1_0] 37 (0, 0))) (hg1_2_ : w.heap[g1_2_]? = some (.cells #[.int .i64 a1_2_0] 3 (0, 0))) (hg1_3_ : w.heap[g1_3_]? = some (.cells #[.int .i64 a1_3_0, .int .i64 a1_3_1, .int .i64 a1_3_2] 39 (0, 0))) (hr1_0_2 : Kd.C k113 w A1_0_2 l1_0_2.length l1_0_2) (hc1_0_2 : l1_0_2.length ≤ c1_0_2) (hr1_1_0 : Kd.C k39 w A1_1_0 l1_1_0.length l1_1_0) (hc1_1_0 : l1_1_0.length ≤ c1_1_0) (h : slices_IndexFunc_int_int_at_impl_Doc_conflicts_1_1.f k l0 a1_0_0 a1_0_1 l1_0_2 l1_1_0 a1_2_0 a1_3_0 a1_3_1 a1_3_2 = some r) :
  Calls Tryz.prog 148 #[.slice A0 l0.length c0, .func (.func 97) #[] #[.pointer (some ⟨g1_0_, 0, none⟩), .pointer (some ⟨g1_1_, 0, none⟩), .pointer (some ⟨g1_2_, 0, none⟩), .pointer (some ⟨g1_3_, 0, none⟩)]] w fun e w' => e = .returned (.int .i64 r) ∧ Below w.heap.size w w' := by
 have HR0 := Am hr0
 have HC0 := Am hc0
 clear hr0 hc0
 have HR1_0_2 := Am hr1_0_2
 have HC1_0_2 := Am hc1_0_2
 clear hr1_0_2 hc1_0_2
 have HR1_1_0 := Am hr1_1_0
 have HC1_1_0 := Am hc1_1_0
 clear hr1_1_0 hc1_1_0
 have B55 := Am hq1_0_
 clear hq1_0_
 have B25 := Am hg1_0_
 clear hg1_0_
 have B26 := Am hg1_1_
 clear hg1_1_
 have B27 := Am hg1_2_
 clear hg1_2_
 have B28 := Am hg1_3_
 clear hg1_3_
 have HB := Am (Below.refl w.heap.size w)
 have H : (slices_IndexFunc_int_int_at_impl_Doc_conflicts_1_1.l0 k l0 (l0.length : Int) 0 l1_1_0 a1_2_0 a1_3_0 a1_3_1 a1_3_2 a1_0_0 a1_0_1 l1_0_2) = some r := h
 clear h
 have H' := Am H
 clear H
 go_enter Tryz.func148, Tryz.ntmps148
 go_wp2
 go_loopg [8] k (fun kq v8 w' => ∃ (x8_1 : Int), v8 = .int .i64 x8_1 ∧ Aside0 (slices_IndexFunc_int_int_at_impl_Doc_conflicts_1_1.l0 kq l0 (l0.length : Int) x8_1 l1_1_0 a1_2_0 a1_3_0 a1_3_1 a1_3_2 a1_0_0 a1_0_1 l1_0_2 = some r) ∧ Aside0 (kq ≤ k) ∧ Aside0 (w'.heap[q1_0_]? = some (.cells #[.int .i64 a1_0_0, .int .i64 a1_0_1, (.slice A1_0_2 l1_0_2.length c1_0_2)] 35 (0, 0))) ∧ Aside0 (w'.heap[g1_0_]? = some (.cells #[.pointer (some ⟨q1_0_, 0, none⟩)] 115 (0, 0))) ∧ Aside0 (w'.heap[g1_1_]? = some (.cells #[(.slice A1_1_0 l1_1_0.length c1_1_0)] 37 (0, 0))) ∧ Aside0 (w'.heap[g1_2_]? = some (.cells #[.int .i64 a1_2_0] 3 (0, 0))) ∧ Aside0 (w'.heap[g1_3_]? = some (.cells #[.int .i64 a1_3_0, .int .i64 a1_3_1, .int .i64 a1_3_2] 39 (0, 0))) ∧ Aside0 (Below w.heap.size w w'))
 case atStart => exact ⟨(0), Xr, H', Xkr, B55, B25, B26, B27, B28, ⟨Xi⟩⟩
 clear H'
 obtain ⟨x8_1, rfl, HA, HK1, B55, B25, B26, B27, B28, HB⟩ := hrel
 cases gk with | zero => cases HA.out | succ k1 => ?_
 have H := HA.out
 clear HA
 simp only [slices_IndexFunc_int_int_at_impl_Doc_conflicts_1_1.l0] at H
 obtain ⟨c3b0, H⟩ | ⟨c3b0, H⟩ := Xit H
 ·obtain ⟨c4b0, H⟩ := Xid H
  obtain ⟨c5b0, H⟩ := Xid H
  obtain ⟨t10, A6, H⟩ := Xbi H
  try dsimp only at H
  have HC7 := Am H
  clear H
  have p11 : 0 ≤ (x8_1 : Int) := Xo
  have q11 : x8_1 < (l0.length : Int) := Xo
  obtain ⟨ad11, e11, hx11_0⟩ := Kd.at_int HR0.out x8_1 p11 q11
  cases e11
  replace hx11_0 := Xm HB hx11_0
  replace p11 := eq_true p11
  replace q11 := eq_true q11
  go_upto_if 16 with (go_at_call 97; (with_reducible refine (impl_Doc_conflicts_1_1.calls k1 (rd l0 x8_1) g1_0_ q1_0_ a1_0_0 a1_0_1 A1_0_2 c1_0_2 l1_0_2 g1_1_ A1_1_0 c1_1_0 l1_1_0 g1_2_ a1_2_0 g1_3_ a1_3_0 a1_3_1 a1_3_2 t10 _ ?s1 ?s2 ?s3 ?s4 ?s5 ?s6 ?s7 ?s8 ?s9 A6.out).mono ?_); (case s1 => exact B55.out); (case s2 => exact B25.out); (case s3 => exact Xc HR1_0_2); (case s4 => exact HC1_0_2.out); (case s5 => exact B26.out); (case s6 => exact Xc HR1_1_0); (case s7 => exact HC1_1_0.out); (case s8 => exact B27.out); (case s9 => exact B28.out); rintro e w8 ⟨rfl, hb⟩; replace B55 := Xbb B55 hb; replace B25 := Xbb B25 hb; replace B26 := Xbb B26 hb; replace B27 := Xbb B27 hb; replace B28 := Xbb B28 hb; replace HB := Xhb hb; clear hb)
  have H := HC7.out
  clear HC7
  by_cases c9 : t10 = true
  ·subst c9
   try rw [if_pos rfl] at H
   obtain rfl := Xsi H
   go_wp2
   go_ret
   exact ⟨Xe, Xi⟩
  replace c9 := Xbf c9
  subst c9
  try rw [if_neg Xft] at H
  have H' := Am H
  clear H
  go_wp2
  go_roundg k1
  case measure => have := HK1.out; omega
  case rel => exact ⟨(wrap64 (x8_1 + 1)), Xr, H', Xk1, B55, B25, B26, B27, B28, ⟨Xi⟩⟩
 obtain rfl := Xsi H
 go_wp2
 go_ret
 exact ⟨Xe, Xi⟩
def slices_ContainsFunc_int_int_at_impl_Doc_conflicts_1_1.f (k : Nat) (l0 : List Int) (a1_0_0 : Int) (a1_0_1 : Int) (l1_0_2 : List (S113)) (l1_1_0 : List (S39)) (a1_2_0 : Int) (a1_3_0 : Int) (a1_3_1 : Int) (a1_3_2 : Int) : Option (Bool) := (slices_IndexFunc_int_int_at_impl_Doc_conflicts_1_1.f k l0 a1_0_0 a1_0_1 l1_0_2 l1_1_0 a1_2_0 a1_3_0 a1_3_1 a1_3_2).bind fun t10 => (some (decide (t10 ≥ 0)))
theorem slices_ContainsFunc_int_int_at_impl_Doc_conflicts_1_1.calls (k : Nat) (A0 : Option Addr) (c0 : Nat) (l0 : List Int) (g1_0_ : Nat) (q1_0_ : Nat) (g1_1_ : Nat) (g1_2_ : Nat) (g1_3_ : Nat) (a1_0_0 : Int) (a1_0_1 : Int) (A1_0_2 : Option Addr) (c1_0_2 : Nat) (l1_0_2 : List (S113)) (A1_1_0 : Option Addr) (c1_1_0 : Nat) (l1_1_0 : List (S39)) (a1_2_0 : Int) (a1_3_0 : Int) (a1_3_1 : Int) (a1_3_2 : Int) (r : Bool) (w : World) (hr0 : Kd.C (Kd.int .i64) w A0 l0.length l0) (hc0 : l0.length ≤ c0) (hq1_0_ : w.heap[q1_0_]? = some (.cells #[.int .i64 a1_0_0, .int .i64 a1_0_1, .slice A1_0_2 l1_0_2.length c1_0_2] 35 (0, 0))) (hg1_0_ : w.heap[g1_0_]? = some (.cells #[.pointer (some ⟨q1_0_, 0, none⟩)] 115 (0, 0))) (hg1_1_ : w.heap[g1_1_]? = some (.cells #[.slice A1_1_0 l1_1_0.length c1_1_0] 37 (0, 0))) (hg1_2_ : w.heap[g1_2_]? = some (.cells #[.int .i64 a1_2_0] 3 (0, 0))) (hg1_3_ : w.heap[g1_3_]? = some (.cells #[.int .i64 a1_3_0, .int .i64 a1_3_1, .int .i64 a1_3_2] 39 (0, 0))) (hr1_0_2 : Kd.C k113 w A1_0_2 l1_0_2.length l1_0_2) (hc1_0_2 : l1_0_2.length ≤ c1_0_2) (hr1_1_0 : Kd.C k39 w A1_1_0 l1_1_0.length l1_1_0) (hc1_1_0 : l1_1_0.length ≤ c1_1_0) (h : slices_ContainsFunc_int_int_at_impl_Doc_conflicts_1_1.f k l0 a1_0_0 a1_0_1 l1_0_2 l1_1_0 a1_2_0 a1_3_0 a1_3_1 a1_3_2 = some r) :
  Calls Tryz.prog 96 #[.slice A0 l0.length c0, .func (.func 97) #[] #[.pointer (some ⟨g1_0_, 0, none⟩), .pointer (some ⟨g1_1_, 0, none⟩), .pointer (some ⟨g1_2_, 0, none⟩), .pointer (some ⟨g1_3_, 0, none⟩)]] w fun e w' => e = .returned (.bool r) ∧ Below w.heap.size w w' := by
 have HR0 := Am hr0
 have HC0 := Am hc0
 clear hr0 hc0
 have HR1_0_2 := Am hr1_0_2
 have HC1_0_2 := Am hc1_0_2
 clear hr1_0_2 hc1_0_2
 have HR1_1_0 := Am hr1_1_0
 have HC1_1_0 := Am hc1_1_0
 clear hr1_1_0 hc1_1_0
 have B55 := Am hq1_0_
 clear hq1_0_
 have B25 := Am hg1_0_
 clear hg1_0_
 have B26 := Am hg1_1_
 clear hg1_1_
 have B27 := Am hg1_2_
 clear hg1_2_
 have B28 := Am hg1_3_
 clear hg1_3_
 have HB := Am (Below.refl w.heap.size w)
 have H : ((slices_IndexFunc_int_int_at_impl_Doc_conflicts_1_1.f k l0 a1_0_0 a1_0_1 l1_0_2 l1_1_0 a1_2_0 a1_3_0 a1_3_1 a1_3_2).bind fun t12 => (some (decide (t12 ≥ 0)))) = some r := h
 clear h
 obtain ⟨t12, A3, H⟩ := Xbi H
 try dsimp only at H
 obtain rfl := Xsi H
 go_enter Tryz.func96, Tryz.ntmps96
 go_wp2_with (first | ((with_reducible refine gate_callee (f := 148) rfl ?_); refine Xgo 7 Tryz.func148 #[.slice A0 l0.length c0, .func (.func 97) #[] #[.pointer (some ⟨g1_0_, 0, none⟩), .pointer (some ⟨g1_1_, 0, none⟩), .pointer (some ⟨g1_2_, 0, none⟩), .pointer (some ⟨g1_3_, 0, none⟩)]] ?_; (with_reducible refine (slices_IndexFunc_int_int_at_impl_Doc_conflicts_1_1.calls k _ _ l0 g1_0_ q1_0_ g1_1_ g1_2_ g1_3_ a1_0_0 a1_0_1 A1_0_2 c1_0_2 l1_0_2 A1_1_0 c1_1_0 l1_1_0 a1_2_0 a1_3_0 a1_3_1 a1_3_2 t12 _ ?s1 ?s2 ?s3 ?s4 ?s5 ?s6 ?s7 ?s8 ?s9 ?s10 ?s11 A3.out).mono ?_); (case s1 => exact Xcd HR0.out); (case s2 => exact HC0.out); (case s3 => exact B55.out); (case s4 => exact B25.out); (case s5 => exact B26.out); (case s6 => exact B27.out); (case s7 => exact B28.out); (case s8 => exact Xcd HR1_0_2.out); (case s9 => exact HC1_0_2.out); (case s10 => exact Xcd HR1_1_0.out); (case s11 => exact HC1_1_0.out); rintro e w4 ⟨rfl, hb⟩; refine ⟨_, rfl, ?_⟩; replace B55 := Xbb B55 hb; replace B25 := Xbb B25 hb; replace B26 := Xbb B26 hb; replace B27 := Xbb B27 hb; replace B28 := Xbb B28 hb; replace HB := Xhb hb; clear hb))
 go_ret
 exact ⟨Xe, Xi⟩
def impl_Doc_conflicts_1.f (k : Nat) (a0 : Int) (a1_0 : Int) (a1_1 : Int) (a1_2 : Int) (a2_0 : Int) (a2_1 : Int) (l2_2 : List (S113)) (l3_0 : List (S39)) : Option (Bool) := if a0 = a1_0 then (some true) else ((impl_Doc_path.f k a2_0 a2_1 l2_2 a1_1).bind fun t10 => ((slices_ContainsFunc_int_int_at_impl_Doc_conflicts_1_1.f k t10 a2_0 a2_1 l2_2 l3_0 a0 a1_0 a1_1 a1_2).bind fun t11 => (some (!t11))))
theorem impl_Doc_conflicts_1.calls (k : Nat) (a0 : Int) (g1_ : Nat) (a1_0 : Int) (a1_1 : Int) (a1_2 : Int) (g2_ : Nat) (q2_ : Nat) (a2_0 : Int) (a2_1 : Int) (A2_2 : Option Addr) (c2_2 : Nat) (l2_2 : List (S113)) (g3_ : Nat) (A3_0 : Option Addr) (c3_0 : Nat) (l3_0 : List (S39)) (r : Bool) (w : World) (hg1_ : w.heap[g1_]? = some (.cells #[.int .i64 a1_0, .int .i64 a1_1, .int .i64 a1_2] 39 (0, 0))) (hq2_ : w.heap[q2_]? = some (.cells #[.int .i64 a2_0, .int .i64 a2_1, .slice A2_2 l2_2.length c2_2] 35 (0, 0))) (hg2_ : w.heap[g2_]? = some (.cells #[.pointer (some ⟨q2_, 0, none⟩)] 115 (0, 0))) (hr2_2 : Kd.C k113 w A2_2 l2_2.length l2_2) (hc2_2 : l2_2.length ≤ c2_2) (hg3_ : w.heap[g3_]? = some (.cells #[.slice A3_0 l3_0.length c3_0] 37 (0, 0))) (hr3_0 : Kd.C k39 w A3_0 l3_0.length l3_0) (hc3_0 : l3_0.length ≤ c3_0) (h : impl_Doc_conflicts_1.f k a0 a1_0 a1_1 a1_2 a2_0 a2_1 l2_2 l3_0 = some r) :
  Calls Tryz.prog 95 #[.int .i64 a0, .pointer (some ⟨g1_, 0, none⟩), .pointer (some ⟨g2_, 0, none⟩), .pointer (some ⟨g3_, 0, none⟩)] w fun e w' => e = .returned (.bool r) ∧ Below w.heap.size w w' := by
 have HR2_2 := Am hr2_2
 have HC2_2 := Am hc2_2
 clear hr2_2 hc2_2
 have HR3_0 := Am hr3_0
 have HC3_0 := Am hc3_0
 clear hr3_0 hc3_0
 have B1 := Am hg1_
 clear hg1_
 have B82 := Am hq2_
 clear hq2_
 have B2 := Am hg2_
 clear hg2_
 have B3 := Am hg3_
 clear hg3_
 have HB := Am (Below.refl w.heap.size w)
 have H : (if a0 = a1_0 then (some true) else ((impl_Doc_path.f k a2_0 a2_1 l2_2 a1_1).bind fun t26 => ((slices_ContainsFunc_int_int_at_impl_Doc_conflicts_1_1.f k t26 a2_0 a2_1 l2_2 l3_0 a0 a1_0 a1_1 a1_2).bind fun t27 => (some (!t27))))) = some r := h
 clear h
 have HC5 := Am H
 clear H
 go_enter Tryz.func95, Tryz.ntmps95
 go_upto_region 1 with ((with_reducible refine gate_dst (N := 4) rfl ?_); refine Xbx 4 #[.int .i64 a0] 3 ?_; intro gb28 hg w6 B28 GE28 hb; replace HB := Xhb hb; have NB1_28 := Xnb hg B1; have NB28_1 := Xns NB1_28; replace B1 := Xbb B1 hb; have NB82_28 := Xnb hg B82; have NB28_82 := Xns NB82_28; replace B82 := Xbb B82 hb; have NB2_28 := Xnb hg B2; have NB28_2 := Xns NB2_28; replace B2 := Xbb B2 hb; have NB3_28 := Xnb hg B3; have NB28_3 := Xns NB3_28; replace B3 := Xbb B3 hb; clear hb hg)
 have H := HC5.out
 clear HC5
 obtain ⟨c7, H⟩ | ⟨c7, H⟩ := Xiu H
 ·have c7b0 : (a0 == a1_0) = true := beq_iff_eq.mpr c7
  have c7b1 : (a0 != a1_0) = false := bne_eq_false_iff_eq.mpr c7
  clear c7
  obtain rfl := Xsi H
  have hnb8 := NB28_1.out
  have hnc8 := NB1_28.out
  have hnb9 := NB28_82.out
  have hnc9 := NB82_28.out
  have hnb10 := NB28_2.out
  have hnc10 := NB2_28.out
  have hnb11 := NB28_3.out
  have hnc11 := NB3_28.out
  have Z12_0 := (blk_cell B28.out 0).trans XW.i0
  obtain ⟨Z13_0, Z13_1, Z13_2⟩ := Xc3 B1
  go_wp2
  go_ret
  exact ⟨Xe, Xi⟩
 have c7b0 : (a0 == a1_0) = false := beq_eq_false_iff_ne.mpr c7
 have c7b1 : (a0 != a1_0) = true := bne_iff_ne.mpr c7
 obtain ⟨t26, A14, H⟩ := Xbi H
 try dsimp only at H
 obtain ⟨t27, A15, H⟩ := Xbi H
 try dsimp only at H
 obtain rfl := Xsi H
 have hnb16 := NB28_1.out
 have hnc16 := NB1_28.out
 have hnb17 := NB28_82.out
 have hnc17 := NB82_28.out
 have hnb18 := NB28_2.out
 have hnc18 := NB2_28.out
 have hnb19 := NB28_3.out
 have hnc19 := NB3_28.out
 have Z20_0 := (blk_cell B28.out 0).trans XW.i0
 obtain ⟨Z21_0, Z21_1, Z21_2⟩ := Xc3 B1
 have Z22_0 := (blk_cell B2.out 0).trans XW.i0
 go_wp2_with (first | (go_at_call 72; (with_reducible refine (impl_Doc_path.calls k q2_ a2_0 a2_1 A2_2 c2_2 l2_2 a1_1 t26 _ ?s1 ?s2 ?s3 A14.out).mono ?_); (case s1 => exact B82.out); (case s2 => exact Xc HR2_2); (case s3 => exact HC2_2.out); rintro e w23 ⟨v614, rfl, ho0, hb⟩; have HO29 := Am (Kd.R_lower (Kd.R_newB ho0 (g := gb28) (o := .cells #[.int .i64 a0] 3 (0, 0)) B28.out) (below_size Xi)); replace B1 := Xbb B1 hb; replace B82 := Xbb B82 hb; replace B2 := Xbb B2 hb; replace B3 := Xbb B3 hb; replace B28 := Xbb B28 hb; replace HB := Xhb hb; clear hb; (try clear ho0); obtain ⟨Ao24, co24, eo24⟩ := Kd.R_slice HO29.out; subst eo24) | (go_at_call 96; (with_reducible refine (slices_ContainsFunc_int_int_at_impl_Doc_conflicts_1_1.calls k _ _ t26 g2_ q2_ g3_ gb28 g1_ a2_0 a2_1 A2_2 c2_2 l2_2 A3_0 c3_0 l3_0 a0 a1_0 a1_1 a1_2 t27 _ ?s1 ?s2 ?s3 ?s4 ?s5 ?s6 ?s7 ?s8 ?s9 ?s10 ?s11 A15.out).mono ?_); (case s1 => exact Xcd (Kd.R_reads' HO29.out).2.2); (case s2 => exact (Kd.R_reads' HO29.out).2.1); (case s3 => exact B82.out); (case s4 => exact B2.out); (case s5 => exact B3.out); (case s6 => exact B28.out); (case s7 => exact B1.out); (case s8 => exact Xc HR2_2); (case s9 => exact HC2_2.out); (case s10 => exact Xc HR3_0); (case s11 => exact HC3_0.out); rintro e w25 ⟨rfl, hb⟩; replace HO29 := Am (Kd.R_below (Xq HO29) hb); replace B1 := Xbb B1 hb; replace B82 := Xbb B82 hb; replace B2 := Xbb B2 hb; replace B3 := Xbb B3 hb; replace B28 := Xbb B28 hb; replace HB := Xhb hb; clear hb))
 go_ret
 exact ⟨Xe, Xi⟩
def slices_IndexFunc_int_int_at_impl_Doc_conflicts_1.l0 : Nat → List Int → Int → Int → Int → Int → Int → List (S39) → Int → Int → List (S113) → Option (Int)
 | 0, _, _, _, _, _, _, _, _, _, _ => none
 | k + 1, x0, x7, x8, x26000, x26001, x26002, x28000, x57000, x57001, x57002 => if x8 < x7 then (if 0 ≤ x8 then (if x8 < (x0.length : Int) then ((impl_Doc_conflicts_1.f k (rd x0 x8) x26000 x26001 x26002 x57000 x57001 x57002 x28000).bind fun t10 => (if t10 = true then (some x8) else (slices_IndexFunc_int_int_at_impl_Doc_conflicts_1.l0 k x0 x7 (wrap64 (x8 + 1)) x26000 x26001 x26002 x28000 x57000 x57001 x57002))) else (none)) else (none)) else (some (-1))
def slices_IndexFunc_int_int_at_impl_Doc_conflicts_1.f (k : Nat) (l0 : List Int) (a1_0_0 : Int) (a1_0_1 : Int) (a1_0_2 : Int) (a1_1_0 : Int) (a1_1_1 : Int) (l1_1_2 : List (S113)) (l1_2_0 : List (S39)) : Option (Int) := slices_IndexFunc_int_int_at_impl_Doc_conflicts_1.l0 k l0 (l0.length : Int) 0 a1_0_0 a1_0_1 a1_0_2 l1_2_0 a1_1_0 a1_1_1 l1_1_2
theorem slices_IndexFunc_int_int_at_impl_Doc_conflicts_1.calls (k : Nat) (A0 : Option Addr) (c0 : Nat) (l0 : List Int) (g1_0_ : Nat) (g1_1_ : Nat) (q1_1_ : Nat) (g1_2_ : Nat) (a1_0_0 : Int) (a1_0_1 : Int) (a1_0_2 : Int) (a1_1_0 : Int) (a1_1_1 : Int) (A1_1_2 : Option Addr) (c1_1_2 : Nat) (l1_1_2 : List (S113)) (A1_2_0 : Option Addr) (c1_2_0 : Nat) (l1_2_0 : List (S39)) (r : Int) (w : World) (hr0 : Kd.C (Kd.int .i64) w A0 l0.length l0) (hc0 : l0.length ≤ c0) (hg1_0_ : w.heap[g1_0_]? = some (.cells #[.int .i64 a1_0_0, .int .i64 a1_0_1, .int .i64 a1_0_2] 39 (0, 0))) (hq1_1_ : w.heap[q1_1_]? = some (.cells #[.int .i64 a1_1_0, .int .i64 a1_1_1, .slice A1_1_2 l1_1_2.length c1_1_2] 35 (0, 0))) (hg1_1_ : w.heap[g1_1_]? = some (.cells #[.pointer (some ⟨q1_1_, 0, none⟩)] 115 (0, 0))) (hg1_2_ : w.heap[g1_2_]? = some (.cells #[.slice A1_2_0 l1_2_0.length c1_2_0] 37 (0, 0))) (hr1_1_2 : Kd.C k113 w A1_1_2 l1_1_2.length l1_1_2) (hc1_1_2 : l1_1_2.length ≤ c1_1_2) (hr1_2_0 : Kd.C k39 w A1_2_0 l1_2_0.length l1_2_0) (hc1_2_0 : l1_2_0.length ≤ c1_2_0) (h : slices_IndexFunc_int_int_at_impl_Doc_conflicts_1.f k l0 a1_0_0 a1_0_1 a1_0_2 a1_1_0 a1_1_1 l1_1_2 l1_2_0 = some r) :
  Calls Tryz.prog 148 #[.slice A0 l0.length c0, .func (.func 95) #[] #[.pointer (some ⟨g1_0_, 0, none⟩), .pointer (some ⟨g1_1_, 0, none⟩), .pointer (some ⟨g1_2_, 0, none⟩)]] w fun e w' => e = .returned (.int .i64 r) ∧ Below w.heap.size w w' := by
 have HR0 := Am hr0
 have HC0 := Am hc0
 clear hr0 hc0
 have HR1_1_2 := Am hr1_1_2
 have HC1_1_2 := Am hc1_1_2
 clear hr1_1_2 hc1_1_2
 have HR1_2_0 := Am hr1_2_0
 have HC1_2_0 := Am hc1_2_0
 clear hr1_2_0 hc1_2_0
 have B25 := Am hg1_0_
 clear hg1_0_
 have B56 := Am hq1_1_
 clear hq1_1_
 have B26 := Am hg1_1_
 clear hg1_1_
 have B27 := Am hg1_2_
 clear hg1_2_
 have HB := Am (Below.refl w.heap.size w)
 have H : (slices_IndexFunc_int_int_at_impl_Doc_conflicts_1.l0 k l0 (l0.length : Int) 0 a1_0_0 a1_0_1 a1_0_2 l1_2_0 a1_1_0 a1_1_1 l1_1_2) = some r := h
 clear h
 have H' := Am H
 clear H
 go_enter Tryz.func148, Tryz.ntmps148
 go_wp2
 go_loopg [8] k (fun kq v8 w' => ∃ (x8_1 : Int), v8 = .int .i64 x8_1 ∧ Aside0 (slices_IndexFunc_int_int_at_impl_Doc_conflicts_1.l0 kq l0 (l0.length : Int) x8_1 a1_0_0 a1_0_1 a1_0_2 l1_2_0 a1_1_0 a1_1_1 l1_1_2 = some r) ∧ Aside0 (kq ≤ k) ∧ Aside0 (w'.heap[g1_0_]? = some (.cells #[.int .i64 a1_0_0, .int .i64 a1_0_1, .int .i64 a1_0_2] 39 (0, 0))) ∧ Aside0 (w'.heap[q1_1_]? = some (.cells #[.int .i64 a1_1_0, .int .i64 a1_1_1, (.slice A1_1_2 l1_1_2.length c1_1_2)] 35 (0, 0))) ∧ Aside0 (w'.heap[g1_1_]? = some (.cells #[.pointer (some ⟨q1_1_, 0, none⟩)] 115 (0, 0))) ∧ Aside0 (w'.heap[g1_2_]? = some (.cells #[(.slice A1_2_0 l1_2_0.length c1_2_0)] 37 (0, 0))) ∧ Aside0 (Below w.heap.size w w'))
 case atStart => exact ⟨(0), Xr, H', Xkr, B25, B56, B26, B27, ⟨Xi⟩⟩
 clear H'
 obtain ⟨x8_1, rfl, HA, HK1, B25, B56, B26, B27, HB⟩ := hrel
 cases gk with | zero => cases HA.out | succ k1 => ?_
 have H := HA.out
 clear HA
 simp only [slices_IndexFunc_int_int_at_impl_Doc_conflicts_1.l0] at H
 obtain ⟨c3b0, H⟩ | ⟨c3b0, H⟩ := Xit H
 ·obtain ⟨c4b0, H⟩ := Xid H
  obtain ⟨c5b0, H⟩ := Xid H
  obtain ⟨t10, A6, H⟩ := Xbi H
  try dsimp only at H
  have HC7 := Am H
  clear H
  have p11 : 0 ≤ (x8_1 : Int) := Xo
  have q11 : x8_1 < (l0.length : Int) := Xo
  obtain ⟨ad11, e11, hx11_0⟩ := Kd.at_int HR0.out x8_1 p11 q11
  cases e11
  replace hx11_0 := Xm HB hx11_0
  replace p11 := eq_true p11
  replace q11 := eq_true q11
  go_upto_if 16 with (go_at_call 95; (with_reducible refine (impl_Doc_conflicts_1.calls k1 (rd l0 x8_1) g1_0_ a1_0_0 a1_0_1 a1_0_2 g1_1_ q1_1_ a1_1_0 a1_1_1 A1_1_2 c1_1_2 l1_1_2 g1_2_ A1_2_0 c1_2_0 l1_2_0 t10 _ ?s1 ?s2 ?s3 ?s4 ?s5 ?s6 ?s7 ?s8 A6.out).mono ?_); (case s1 => exact B25.out); (case s2 => exact B56.out); (case s3 => exact B26.out); (case s4 => exact Xc HR1_1_2); (case s5 => exact HC1_1_2.out); (case s6 => exact B27.out); (case s7 => exact Xc HR1_2_0); (case s8 => exact HC1_2_0.out); rintro e w8 ⟨rfl, hb⟩; replace B25 := Xbb B25 hb; replace B56 := Xbb B56 hb; replace B26 := Xbb B26 hb; replace B27 := Xbb B27 hb; replace HB := Xhb hb; clear hb)
  have H := HC7.out
  clear HC7
  by_cases c9 : t10 = true
  ·subst c9
   try rw [if_pos rfl] at H
   obtain rfl := Xsi H
   go_wp2
   go_ret
   exact ⟨Xe, Xi⟩
  replace c9 := Xbf c9
  subst c9
  try rw [if_neg Xft] at H
  have H' := Am H
  clear H
  go_wp2
  go_roundg k1
  case measure => have := HK1.out; omega
  case rel => exact ⟨(wrap64 (x8_1 + 1)), Xr, H', Xk1, B25, B56, B26, B27, ⟨Xi⟩⟩
 obtain rfl := Xsi H
 go_wp2
 go_ret
 exact ⟨Xe, Xi⟩
def slices_DeleteFunc_int_int_at_impl_Doc_conflicts_1.l0 : Nat → List Int → Int → Int → Int → Int → Int → List (S39) → Int → Int → List (S113) → Option (List Int)
 | 0, _, _, _, _, _, _, _, _, _, _ => none
 | k + 1, x0, x5, x6, x26000, x26001, x26002, x28000, x57000, x57001, x57002 => if x6 < (x0.length : Int) then (if 0 ≤ x6 then ((impl_Doc_conflicts_1.f k (rd x0 x6) x26000 x26001 x26002 x57000 x57001 x57002 x28000).bind fun t10 => (if t10 = true then (slices_DeleteFunc_int_int_at_impl_Doc_conflicts_1.l0 k x0 x5 (wrap64 (x6 + 1)) x26000 x26001 x26002 x28000 x57000 x57001 x57002) else (if 0 ≤ x5 then (if x5 < (x0.length : Int) then (slices_DeleteFunc_int_int_at_impl_Doc_conflicts_1.l0 k (x0.set (x5 : Int).toNat (rd x0 x6)) (wrap64 (x5 + 1)) (wrap64 (x6 + 1)) x26000 x26001 x26002 x28000 x57000 x57001 x57002) else (none)) else (none)))) else (none)) else (if 0 ≤ x5 then (if x5 ≤ (x0.length : Int) then (some ((x0.take (x5 : Int).toNat ++ List.replicate (x0.length - (x5 : Int).toNat) 0).take (x5 : Int).toNat)) else (none)) else (none))
def slices_DeleteFunc_int_int_at_impl_Doc_conflicts_1.f (k : Nat) (l0 : List Int) (a1_0_0 : Int) (a1_0_1 : Int) (a1_0_2 : Int) (a1_1_0 : Int) (a1_1_1 : Int) (l1_1_2 : List (S113)) (l1_2_0 : List (S39)) : Option (List Int) := (slices_IndexFunc_int_int_at_impl_Doc_conflicts_1.f k l0 a1_0_0 a1_0_1 a1_0_2 a1_1_0 a1_1_1 l1_1_2 l1_2_0).bind fun t10 => (if t10 = (-1) then (some l0) else (slices_DeleteFunc_int_int_at_impl_Doc_conflicts_1.l0 k l0 t10 (wrap64 (t10 + 1)) a1_0_0 a1_0_1 a1_0_2 l1_2_0 a1_1_0 a1_1_1 l1_1_2))
theorem slices_DeleteFunc_int_int_at_impl_Doc_conflicts_1.calls (k : Nat) (P0_ : Nat → Prop) (u9000_ : Value) (l0 : List Int) (g1_0_ : Nat) (g1_1_ : Nat) (q1_1_ : Nat) (g1_2_ : Nat) (a1_0_0 : Int) (a1_0_1 : Int) (a1_0_2 : Int) (a1_1_0 : Int) (a1_1_1 : Int) (A1_1_2 : Option Addr) (c1_1_2 : Nat) (l1_1_2 : List (S113)) (A1_2_0 : Option Addr) (c1_2_0 : Nat) (l1_2_0 : List (S39)) (r : List Int) (w0 w : World) (hB : Below w0.heap.size w0 w) (ho0 : Kd.R (Kd.int .i64) 3 w w0.heap.size P0_ u9000_ l0) (hg1_0_ : w.heap[g1_0_]? = some (.cells #[.int .i64 a1_0_0, .int .i64 a1_0_1, .int .i64 a1_0_2] 39 (0, 0))) (hq1_1_ : w.heap[q1_1_]? = some (.cells #[.int .i64 a1_1_0, .int .i64 a1_1_1, .slice A1_1_2 l1_1_2.length c1_1_2] 35 (0, 0))) (hg1_1_ : w.heap[g1_1_]? = some (.cells #[.pointer (some ⟨q1_1_, 0, none⟩)] 115 (0, 0))) (hg1_2_ : w.heap[g1_2_]? = some (.cells #[.slice A1_2_0 l1_2_0.length c1_2_0] 37 (0, 0))) (hr1_1_2 : ∀ W_, Kept w W_ (fun k_ => P0_ k_) → Kd.C k113 W_ A1_1_2 l1_1_2.length l1_1_2) (hc1_1_2 : l1_1_2.length ≤ c1_1_2) (hr1_2_0 : ∀ W_, Kept w W_ (fun k_ => P0_ k_) → Kd.C k39 W_ A1_2_0 l1_2_0.length l1_2_0) (hc1_2_0 : l1_2_0.length ≤ c1_2_0) (h : slices_DeleteFunc_int_int_at_impl_Doc_conflicts_1.f k l0 a1_0_0 a1_0_1 a1_0_2 a1_1_0 a1_1_1 l1_1_2 l1_2_0 = some r) :
  Calls Tryz.prog 93 #[u9000_, .func (.func 95) #[] #[.pointer (some ⟨g1_0_, 0, none⟩), .pointer (some ⟨g1_1_, 0, none⟩), .pointer (some ⟨g1_2_, 0, none⟩)]] w fun e w' => ∃ v0_ : Value, e = .returned (v0_) ∧ Kd.R (Kd.int .i64) 3 w' w0.heap.size (fun k_ => (P0_ k_ ∨ w.heap.size ≤ k_)) v0_ r ∧ Below w0.heap.size w0 w' ∧ Kept w w' (fun k_ => P0_ k_) := by
 have HO0 := Am (show Kd.R (Kd.int .i64) 3 w w0.heap.size (fun k_ => (P0_ k_ ∨ w.heap.size ≤ k_)) u9000_ l0 from Kd.R_mono ho0 (fun k_ hk => (.inl hk)))
 have HR1_1_2 := Am hr1_1_2
 have HC1_1_2 := Am hc1_1_2
 clear hr1_1_2 hc1_1_2
 have HR1_2_0 := Am hr1_2_0
 have HC1_2_0 := Am hc1_2_0
 clear hr1_2_0 hc1_2_0
 have B25 := Am hg1_0_
 clear hg1_0_
 have B56 := Am hq1_1_
 clear hq1_1_
 have B26 := Am hg1_1_
 clear hg1_1_
 have B27 := Am hg1_2_
 clear hg1_2_
 have HK := Am (Kept.refl w (fun k_ => P0_ k_))
 have HW0 := Am hB.size
 have HB := Am hB
 clear hB
 have H : ((slices_IndexFunc_int_int_at_impl_Doc_conflicts_1.f k l0 a1_0_0 a1_0_1 a1_0_2 a1_1_0 a1_1_1 l1_1_2 l1_2_0).bind fun t28 => (if t28 = (-1) then (some l0) else (slices_DeleteFunc_int_int_at_impl_Doc_conflicts_1.l0 k l0 t28 (wrap64 (t28 + 1)) a1_0_0 a1_0_1 a1_0_2 l1_2_0 a1_1_0 a1_1_1 l1_1_2))) = some r := h
 clear h
 obtain ⟨t28, A3, H⟩ := Xbi H
 try dsimp only at H
 have HC4 := Am H
 clear H
 obtain ⟨Ao5, co5, eo5⟩ := Kd.R_slice HO0.out
 subst eo5
 go_enter Tryz.func93, Tryz.ntmps93
 go_upto_if 12 with ((with_reducible refine gate_callee (f := 148) rfl ?_); refine Xgo 10 Tryz.func148 #[.slice Ao5 l0.length co5, .func (.func 95) #[] #[.pointer (some ⟨g1_0_, 0, none⟩), .pointer (some ⟨g1_1_, 0, none⟩), .pointer (some ⟨g1_2_, 0, none⟩)]] ?_; (with_reducible refine (slices_IndexFunc_int_int_at_impl_Doc_conflicts_1.calls k _ _ l0 g1_0_ g1_1_ q1_1_ g1_2_ a1_0_0 a1_0_1 a1_0_2 a1_1_0 a1_1_1 A1_1_2 c1_1_2 l1_1_2 A1_2_0 c1_2_0 l1_2_0 t28 _ ?s1 ?s2 ?s3 ?s4 ?s5 ?s6 ?s7 ?s8 ?s9 ?s10 A3.out).mono ?_); (case s1 => exact Xcd (Kd.R_reads' HO0.out).2.2); (case s2 => exact (Kd.R_reads' HO0.out).2.1); (case s3 => exact B25.out); (case s4 => exact B56.out); (case s5 => exact B26.out); (case s6 => exact B27.out); (case s7 => exact Kd.C_kept_now HR1_1_2.out (by repeat first | (with_reducible first | exact HK.out | apply Kept.drewN | apply Kept.drew | refine Kept.setCell ?_ (.inr GW25.out) _ | refine Kept.setCell ?_ (.inr GW56.out) _ | refine Kept.setCell ?_ (.inr GW26.out) _ | refine Kept.setCell ?_ (.inr GW27.out) _) | exact HK.out)); (case s8 => exact HC1_1_2.out); (case s9 => exact Kd.C_kept_now HR1_2_0.out (by repeat first | (with_reducible first | exact HK.out | apply Kept.drewN | apply Kept.drew | refine Kept.setCell ?_ (.inr GW25.out) _ | refine Kept.setCell ?_ (.inr GW56.out) _ | refine Kept.setCell ?_ (.inr GW26.out) _ | refine Kept.setCell ?_ (.inr GW27.out) _) | exact HK.out)); (case s10 => exact HC1_2_0.out); rintro e w6 ⟨rfl, hb⟩; refine ⟨_, rfl, ?_⟩; replace HO0 := Am (Kd.R_below (Xq HO0) hb); replace B25 := Xbb B25 hb; replace B56 := Xbb B56 hb; replace B26 := Xbb B26 hb; replace B27 := Xbb B27 hb; replace HK := Am (Kept.below (S := (fun k_ => P0_ k_)) (by repeat first | (with_reducible first | exact HK.out | apply Kept.drewN | apply Kept.drew | refine Kept.setCell ?_ (.inr GW25.out) _ | refine Kept.setCell ?_ (.inr GW56.out) _ | refine Kept.setCell ?_ (.inr GW26.out) _ | refine Kept.setCell ?_ (.inr GW27.out) _) | exact HK.out) hb); replace HB := Xhb hb; clear hb)
 have H := HC4.out
 clear HC4
 obtain ⟨c7, H⟩ | ⟨c7, H⟩ := Xiu H
 ·have c7b0 : (t28 == (-1)) = true := beq_iff_eq.mpr c7
  have c7b1 : (t28 != (-1)) = false := bne_eq_false_iff_eq.mpr c7
  clear c7
  (first | rw [c7b0] | (simp only [i64_w, i32_w]; rw [c7b0]) | skip)
  obtain rfl := Xsi H
  go_wp2
  go_ret
  exact ⟨_, Xe, Xq HO0, Xi, by repeat first | (with_reducible first | exact HK.out | apply Kept.drewN | apply Kept.drew | refine Kept.setCell ?_ (.inr GW25.out) _ | refine Kept.setCell ?_ (.inr GW56.out) _ | refine Kept.setCell ?_ (.inr GW26.out) _ | refine Kept.setCell ?_ (.inr GW27.out) _) | exact HK.out⟩
 have c7b0 : (t28 == (-1)) = false := beq_eq_false_iff_ne.mpr c7
 have c7b1 : (t28 != (-1)) = true := bne_iff_ne.mpr c7
 (first | rw [c7b0] | (simp only [i64_w, i32_w]; rw [c7b0]) | skip)
 have H' := Am H
 clear H
 go_wp2
 go_loopg [5, 6] k (fun kq v5 v6 w' => ∃ (x0_1 : List Int) (x5_1 : Int) (x6_1 : Int), v5 = .int .i64 x5_1 ∧ v6 = .int .i64 x6_1 ∧ Aside0 (slices_DeleteFunc_int_int_at_impl_Doc_conflicts_1.l0 kq x0_1 x5_1 x6_1 a1_0_0 a1_0_1 a1_0_2 l1_2_0 a1_1_0 a1_1_1 l1_1_2 = some r) ∧ Aside0 (kq ≤ k) ∧ Aside0 (Kd.R (Kd.int .i64) 3 w' w0.heap.size (fun k_ => (P0_ k_ ∨ w.heap.size ≤ k_)) (.slice Ao5 l0.length co5) x0_1) ∧ Aside0 (w'.heap[g1_0_]? = some (.cells #[.int .i64 a1_0_0, .int .i64 a1_0_1, .int .i64 a1_0_2] 39 (0, 0))) ∧ Aside0 (w'.heap[q1_1_]? = some (.cells #[.int .i64 a1_1_0, .int .i64 a1_1_1, (.slice A1_1_2 l1_1_2.length c1_1_2)] 35 (0, 0))) ∧ Aside0 (w'.heap[g1_1_]? = some (.cells #[.pointer (some ⟨q1_1_, 0, none⟩)] 115 (0, 0))) ∧ Aside0 (w'.heap[g1_2_]? = some (.cells #[(.slice A1_2_0 l1_2_0.length c1_2_0)] 37 (0, 0))) ∧ Aside0 (Kept w w' (fun k_ => P0_ k_)) ∧ Aside0 (Below w0.heap.size w0 w'))
 case atStart => exact ⟨(l0), (t28), (wrap64 (t28 + 1)), Xr, Xr, H', Xkr, (Xp' HO0), B25, B56, B26, B27, ⟨by repeat first | (with_reducible first | exact HK.out | apply Kept.drewN | apply Kept.drew | refine Kept.setCell ?_ (.inr GW25.out) _ | refine Kept.setCell ?_ (.inr GW56.out) _ | refine Kept.setCell ?_ (.inr GW26.out) _ | refine Kept.setCell ?_ (.inr GW27.out) _) | exact HK.out⟩, ⟨Xi⟩⟩
 clear H'
 (try clear c7); (try clear c7b0); (try clear c7b1)
 obtain ⟨x0_1, x5_1, x6_1, rfl, rfl, HA, HK1, O_0, B25, B56, B26, B27, HK, HB⟩ := hrel
 have hl0_1 := (Kd.R_reads' O_0.out).1
 rw [hl0_1] at O_0
 (try simp only [hl0_1])
 (try simp only [hl0_1] at B25)
 (try simp only [hl0_1] at B56)
 (try simp only [hl0_1] at B26)
 (try simp only [hl0_1] at B27)
 cases gk with | zero => cases HA.out | succ k1 => ?_
 have H := HA.out
 clear HA
 simp only [slices_DeleteFunc_int_int_at_impl_Doc_conflicts_1.l0] at H
 obtain ⟨c8b0, H⟩ | ⟨c8b0, H⟩ := Xit H
 ·obtain ⟨c9b0, H⟩ := Xid H
  obtain ⟨t29, A10, H⟩ := Xbi H
  try dsimp only at H
  have HC11 := Am H
  clear H
  have p30 : 0 ≤ (x6_1 : Int) := Xo
  have q30 : x6_1 < (x0_1.length : Int) := Xo
  obtain ⟨ad30, e30, hx30_0⟩ := Kd.at_int (Kd.R_reads' O_0.out).2.2 x6_1 p30 q30
  cases e30
  replace p30 := eq_true p30
  replace q30 := eq_true q30
  go_upto_if 29 with (go_at_call 95; (with_reducible refine (impl_Doc_conflicts_1.calls k1 (rd x0_1 x6_1) g1_0_ a1_0_0 a1_0_1 a1_0_2 g1_1_ q1_1_ a1_1_0 a1_1_1 A1_1_2 c1_1_2 l1_1_2 g1_2_ A1_2_0 c1_2_0 l1_2_0 t29 _ ?s1 ?s2 ?s3 ?s4 ?s5 ?s6 ?s7 ?s8 A10.out).mono ?_); (case s1 => exact B25.out); (case s2 => exact B56.out); (case s3 => exact B26.out); (case s4 => exact Kd.C_kept_now HR1_1_2.out (by repeat first | (with_reducible first | exact HK.out | apply Kept.drewN | apply Kept.drew | refine Kept.setCell ?_ (.inr GW25.out) _ | refine Kept.setCell ?_ (.inr GW56.out) _ | refine Kept.setCell ?_ (.inr GW26.out) _ | refine Kept.setCell ?_ (.inr GW27.out) _) | exact HK.out)); (case s5 => exact HC1_1_2.out); (case s6 => exact B27.out); (case s7 => exact Kd.C_kept_now HR1_2_0.out (by repeat first | (with_reducible first | exact HK.out | apply Kept.drewN | apply Kept.drew | refine Kept.setCell ?_ (.inr GW25.out) _ | refine Kept.setCell ?_ (.inr GW56.out) _ | refine Kept.setCell ?_ (.inr GW26.out) _ | refine Kept.setCell ?_ (.inr GW27.out) _) | exact HK.out)); (case s8 => exact HC1_2_0.out); rintro e w12 ⟨rfl, hb⟩; replace O_0 := Am (Kd.R_below (Xq O_0) hb); replace B25 := Xbb B25 hb; replace B56 := Xbb B56 hb; replace B26 := Xbb B26 hb; replace B27 := Xbb B27 hb; replace HK := Am (Kept.below (S := (fun k_ => P0_ k_)) (by repeat first | (with_reducible first | exact HK.out | apply Kept.drewN | apply Kept.drew | refine Kept.setCell ?_ (.inr GW25.out) _ | refine Kept.setCell ?_ (.inr GW56.out) _ | refine Kept.setCell ?_ (.inr GW26.out) _ | refine Kept.setCell ?_ (.inr GW27.out) _) | exact HK.out) hb); replace HB := Xhb hb; clear hb)
  have H := HC11.out
  clear HC11
  by_cases c13 : t29 = true
  ·subst c13
   try rw [if_pos rfl] at H
   have H' := Am H
   clear H
   go_wp2
   (try simp only [← hl0_1])
   go_roundg k1
   case measure => have := HK1.out; omega
   case rel => exact ⟨(x0_1), (x5_1), (wrap64 (x6_1 + 1)), Xr, Xr, H', Xk1, ⟨by (try simp only [hl0_1]); (with_reducible repeat (first | apply Kd.R_alloc | apply Kd.R_drewN | apply Kd.R_drew)); exact O_0.out⟩, ⟨by (try simp only [hl0_1]); exact B25.out⟩, ⟨by (try simp only [hl0_1]); exact B56.out⟩, ⟨by (try simp only [hl0_1]); exact B26.out⟩, ⟨by (try simp only [hl0_1]); exact B27.out⟩, ⟨by repeat first | (with_reducible first | exact HK.out | apply Kept.drewN | apply Kept.drew | refine Kept.setCell ?_ (.inr GW25.out) _ | refine Kept.setCell ?_ (.inr GW56.out) _ | refine Kept.setCell ?_ (.inr GW26.out) _ | refine Kept.setCell ?_ (.inr GW27.out) _) | exact HK.out⟩, ⟨Xi⟩⟩
  replace c13 := Xbf c13
  subst c13
  try rw [if_neg Xft] at H
  obtain ⟨c14b0, H⟩ := Xid H
  (first | rw [c14b0] | (simp only [i64_w, i32_w]; rw [c14b0]) | skip)
  obtain ⟨c15b0, H⟩ := Xid H
  obtain ⟨y31, hy31⟩ : ∃ y_ : List Int, y_ = (x0_1.set (x5_1 : Int).toNat (rd x0_1 x6_1)) := ⟨_, rfl⟩
  replace H : (slices_DeleteFunc_int_int_at_impl_Doc_conflicts_1.l0 k1 y31 (wrap64 (x5_1 + 1)) (wrap64 (x6_1 + 1)) a1_0_0 a1_0_1 a1_0_2 l1_2_0 a1_1_0 a1_1_1 l1_1_2) = some r := by first | (rw [hy31]; with_reducible exact H) | (have H2_ := (Option.bind_some _ _).symm.trans H; rw [hy31]; with_reducible exact H2_) | (have H2_ := (Option.bind_some _ _).symm.trans H; with_reducible exact H2_) | with_reducible exact H | (rw [hy31]; exact H) | exact H
  have Ny31 := Am hy31
  clear hy31
  have H' := Am H
  clear H
  have p16 : 0 ≤ (x5_1 : Int) := Xo
  have q16 : (x5_1 : Int) < ((x0_1.length : Int) : Int) := Xo
  obtain ⟨go16, co16, eo16, gb16, gl16, cl16, HG16⟩ := Kd.R_form O_0.out (by omega)
  (first | cases eo16 | (injection eo16 with ea_ en_ ec_; (first | subst ea_ | (injection ea_ with ea_; subst ea_)); subst ec_; clear en_))
  have GB16 := Am gb16
  have GG16 := Am HG16
  clear gb16 gl16 HG16
  have HMgo16 := Am (show (P0_ go16 ∨ w.heap.size ≤ go16) from (O_0.out.1 _ rfl))
  (first | simp only [add_plain] at hx30_0 | skip)
  obtain ⟨hx16_0, hf16_0⟩ := Kd.R_celln 0 O_0.out (x5_1 : Int) p16 q16
  replace p16 := eq_true p16
  replace q16 := eq_true q16
  have HP17 := Kd.R_putg O_0.out (x5_1 : Int) (rd x0_1 x6_1)
  go_wp2_with (first | ((with_reducible refine gate_store (t := 3) (p := 33) rfl ?_); refine store_event (t := 3) (p := 33) (v := ?vo_w18) (w1 := (w12.setCell ⟨go16, (x5_1 : Int).toNat, none⟩ (.int .i64 (rd x0_1 x6_1)))) ?hg ?ho ?hn ?hr ?_; (case ho => rfl); (case hg => rfl); (case hn => rfl); (case hr => first | (go_simp; done) | (go_simp; rfl)); intro w18 hw; have hg : w12.grownBy w18 (some go16) := (by rw [hw]; exact HP17.2); have hp_ : Kd.R (Kd.int .i64) 3 w18 w0.heap.size (fun k_ => (P0_ k_ ∨ w.heap.size ≤ k_)) (.slice (some ⟨go16, 0, none⟩) x0_1.length co5) y31 := (by rw [hw, Ny31.out]; exact HP17.1); clear HP17; replace B25 := Am (blk_grown (g := g1_0_) (o := .cells #[.int .i64 a1_0_0, .int .i64 a1_0_1, .int .i64 a1_0_2] 39 (0, 0)) B25.out hg (Kd.R_ne O_0.out B25.out (by decide))); replace B56 := Am (blk_grown (g := q1_1_) (o := .cells #[.int .i64 a1_1_0, .int .i64 a1_1_1, .slice A1_1_2 l1_1_2.length c1_1_2] 35 (0, 0)) B56.out hg (Kd.R_ne O_0.out B56.out (by decide))); replace B26 := Am (blk_grown (g := g1_1_) (o := .cells #[.pointer (some ⟨q1_1_, 0, none⟩)] 115 (0, 0)) B26.out hg (Kd.R_ne O_0.out B26.out (by decide))); replace B27 := Am (blk_grown (g := g1_2_) (o := .cells #[.slice A1_2_0 l1_2_0.length c1_2_0] 37 (0, 0)) B27.out hg (Kd.R_ne O_0.out B27.out (by decide))); replace HB := Am ((by rw [hw]; exact below_set (HB.out) GB16.out : Below w0.heap.size w0 w18)); replace HK := Am (Kept.of_grown (S := (fun k_ => P0_ k_)) hg (by repeat first | (with_reducible first | exact HK.out | apply Kept.drewN | apply Kept.drew | refine Kept.setCell ?_ (.inr GW25.out) _ | refine Kept.setCell ?_ (.inr GW56.out) _ | refine Kept.setCell ?_ (.inr GW26.out) _ | refine Kept.setCell ?_ (.inr GW27.out) _) | exact HK.out) (fun k_ e_ => (O_0.out.1 k_ e_))); replace O_0 := Am (hp_); clear hg hw hp_))
  (try simp only [← hl0_1])
  go_roundg k1
  case measure => have := HK1.out; omega
  case rel => exact ⟨(y31), (wrap64 (x5_1 + 1)), (wrap64 (x6_1 + 1)), Xr, Xr, H', Xk1, ⟨by (try simp only [hl0_1]); (with_reducible repeat (first | apply Kd.R_alloc | apply Kd.R_drewN | apply Kd.R_drew)); exact O_0.out⟩, ⟨by (try simp only [hl0_1]); exact B25.out⟩, ⟨by (try simp only [hl0_1]); exact B56.out⟩, ⟨by (try simp only [hl0_1]); exact B26.out⟩, ⟨by (try simp only [hl0_1]); exact B27.out⟩, ⟨by repeat first | (with_reducible first | exact HK.out | apply Kept.drewN | apply Kept.drew | refine Kept.setCell ?_ (.inr GW25.out) _ | refine Kept.setCell ?_ (.inr GW56.out) _ | refine Kept.setCell ?_ (.inr GW26.out) _ | refine Kept.setCell ?_ (.inr GW27.out) _) | exact HK.out⟩, ⟨Xi⟩⟩
 obtain ⟨c19, H⟩ | ⟨c19, H⟩ := Xiu H
 ·have c19b0 := eq_true c19
  have c19b1 : decide (0 ≤ x5_1) = true := decide_eq_true c19
  clear c19
  obtain ⟨c20, H⟩ := Xif H
  have c20b0 := eq_true c20
  have c20b1 : decide (x5_1 ≤ (x0_1.length : Int)) = true := decide_eq_true c20
  clear c20
  obtain ⟨y33, hy33⟩ : ∃ y_ : List Int, y_ = (x0_1.drop (x5_1 : Int).toNat) := ⟨_, rfl⟩
  replace H : (some ((x0_1.take (x5_1 : Int).toNat ++ List.replicate (x0_1.length - (x5_1 : Int).toNat) 0).take (x5_1 : Int).toNat)) = some r := by first | (rw [hy33]; with_reducible exact H) | (have H2_ := (Option.bind_some _ _).symm.trans H; rw [hy33]; with_reducible exact H2_) | (have H2_ := (Option.bind_some _ _).symm.trans H; with_reducible exact H2_) | with_reducible exact H | (rw [hy33]; exact H) | exact H
  have Ny33 := Am hy33
  clear hy33
  obtain ⟨y34, hy34⟩ : ∃ y_ : List Int, y_ = (x0_1.take (x5_1 : Int).toNat ++ List.replicate (x0_1.length - (x5_1 : Int).toNat) 0) := ⟨_, rfl⟩
  replace H : (some (y34.take (x5_1 : Int).toNat)) = some r := by first | (rw [hy34]; with_reducible exact H) | (have H2_ := (Option.bind_some _ _).symm.trans H; rw [hy34]; with_reducible exact H2_) | (have H2_ := (Option.bind_some _ _).symm.trans H; with_reducible exact H2_) | with_reducible exact H | (rw [hy34]; exact H) | exact H
  have Ny34 := Am hy34
  clear hy34
  have c21b0 := eq_true (Xo : x5_1 ≤ (x0_1.length : Int))
  obtain ⟨y35, hy35⟩ : ∃ y_ : List Int, y_ = (y34.take (x5_1 : Int).toNat) := ⟨_, rfl⟩
  replace H : (some y35) = some r := by first | (rw [hy35]; with_reducible exact H) | (have H2_ := (Option.bind_some _ _).symm.trans H; rw [hy35]; with_reducible exact H2_) | (have H2_ := (Option.bind_some _ _).symm.trans H; with_reducible exact H2_) | with_reducible exact H | (rw [hy35]; exact H) | exact H
  have Ny35 := Am hy35
  clear hy35
  obtain rfl := Xsi H
  have q22 : (x5_1 : Int) ≤ ((x0_1.length : Int) : Int) := Xo
  obtain ⟨i022, hi022, _, hsz22, _⟩ := info_parts info3
  have hroom22 : x0_1.length ≤ co5 := (Kd.R_reads' O_0.out).2.1
  have hC22 : Kd.C (Kd.int .i64) _ Ao5 x0_1.length x0_1 := (Kd.R_reads' O_0.out).2.2
  have q36 : (0 : Int) ≤ (x5_1 : Int) := Xo
  have hcut22 := cut_from (P := Tryz.prog) 30 3 .i64 Tryz.underlying30 hi022 1 hsz22 Ao5 x0_1.length co5 x5_1 q36 q22
  have hr22 := Kd.C_drop (m := (x5_1 : Int).toNat) (c := co5) hC22 (by omega) hroom22
  obtain ⟨A22, hA22⟩ : ∃ A1, A1 = (if co5 = (x5_1 : Int).toNat then Ao5 else (Ao5 : Option Addr).map (·.add ((x5_1 : Int).toNat * 1))) := ⟨_, rfl⟩
  obtain ⟨c22, hc22⟩ : ∃ c1, c1 = co5 - (x5_1 : Int).toNat := ⟨_, rfl⟩
  have hy22 : y33.length = x0_1.length - (x5_1 : Int).toNat := (by rw [Ny33.out, List.length_drop] <;> omega)
  rw [show (x0_1).drop (x5_1 : Int).toNat = y33 from Ny33.out.symm] at hr22
  replace hr22 : Kd.C (Kd.int .i64) _ A22 y33.length y33 := (by rw [hA22]; exact hr22)
  rw [← hy22, ← hA22, ← hc22] at hcut22
  have HR37 := Am hr22
  have HC37 := Am (show y33.length ≤ c22 from by rw [hy22, hc22]; exact Nat.sub_le_sub_right hroom22 _)
  clear hr22 hC22 hroom22 hi022 hsz22 hc22
  have KY22 := Am hy22
  have KA22 := Am hA22
  clear hy22 hA22
  have KL22 := Am (show (x5_1 : Int).toNat ≤ x0_1.length from by omega)
  replace q22 := eq_true q22
  go_wp2_with (first | ((with_reducible refine gate_builtin (b := .clear) (xs := #[.tmp 38]) rfl ?_); refine XW.R_clear (Kd.int .i64) (w0 := w0) w0.heap.size rfl (.tmp 38) 30 3 rfl Tryz.underlying30 (.int .i64 0) 8 info3 rfl (by decide) 0 (fun _ => rfl) (A0 := Ao5) (n := x0_1.length) (c := co5) (N := (x5_1 : Int).toNat) rfl ?hA ?hm (Xq O_0) ?hN Xi (below_size Xi) ?_; (case hA => exact KA22.out); (case hm => exact KY22.out); (case hN => exact KL22.out); intro w23 ho hb hg; rw [← Ny34.out] at ho; replace B25 := Am (blk_grown (g := g1_0_) (o := .cells #[.int .i64 a1_0_0, .int .i64 a1_0_1, .int .i64 a1_0_2] 39 (0, 0)) B25.out hg (Kd.R_ne O_0.out B25.out (by decide))); replace B56 := Am (blk_grown (g := q1_1_) (o := .cells #[.int .i64 a1_1_0, .int .i64 a1_1_1, .slice A1_1_2 l1_1_2.length c1_1_2] 35 (0, 0)) B56.out hg (Kd.R_ne O_0.out B56.out (by decide))); replace B26 := Am (blk_grown (g := g1_1_) (o := .cells #[.pointer (some ⟨q1_1_, 0, none⟩)] 115 (0, 0)) B26.out hg (Kd.R_ne O_0.out B26.out (by decide))); replace B27 := Am (blk_grown (g := g1_2_) (o := .cells #[.slice A1_2_0 l1_2_0.length c1_2_0] 37 (0, 0)) B27.out hg (Kd.R_ne O_0.out B27.out (by decide))); replace HB := Am (hb); replace HK := Am (Kept.of_grown (S := (fun k_ => P0_ k_)) hg (by repeat first | (with_reducible first | exact HK.out | apply Kept.drewN | apply Kept.drew | refine Kept.setCell ?_ (.inr GW25.out) _ | refine Kept.setCell ?_ (.inr GW56.out) _ | refine Kept.setCell ?_ (.inr GW26.out) _ | refine Kept.setCell ?_ (.inr GW27.out) _) | exact HK.out) (fun k_ e_ => (O_0.out.1 k_ e_))); replace O_0 := Am (ho); clear ho hb hg; have q24 : (x5_1 : Int) ≤ ((x0_1.length : Int) : Int) := Xo; obtain ⟨i024, hi024, _, hsz24, _⟩ := info_parts info3; have hcut24 := cut_to (P := Tryz.prog) 30 3 .i64 Tryz.underlying30 hi024 Ao5 x0_1.length co5 x5_1 (Xo) q24 (Kd.R_reads' O_0.out).2.1; have hr24 := Kd.R_take (m := (x5_1 : Int).toNat) O_0.out (by have hlx_ := (Kd.R_reads' O_0.out).1; omega); have hy24 : y35.length = (x5_1 : Int).toNat := (by have hlx_ := (Kd.R_reads' O_0.out).1; rw [Ny35.out, List.length_take]; omega); rw [← Ny35.out] at hr24; rw [← hy24] at hr24 hcut24; clear hy24 hi024 hsz24 O_0; have HO38 := Am hr24; clear hr24; replace q24 := eq_true q24))
  go_ret
  exact ⟨_, Xe, Xq HO38, Xi, by repeat first | (with_reducible first | exact HK.out | apply Kept.drewN | apply Kept.drew | refine Kept.setCell ?_ (.inr GW25.out) _ | refine Kept.setCell ?_ (.inr GW56.out) _ | refine Kept.setCell ?_ (.inr GW26.out) _ | refine Kept.setCell ?_ (.inr GW27.out) _) | exact HK.out⟩
 exact absurd H (by simp)
def impl_Doc_conflicts.f (k : Nat) (a0_0 : Int) (a0_1 : Int) (l0_2 : List (S113)) (l1 : List (S39)) (a2_0 : Int) (a2_1 : Int) (a2_2 : Int) : Option (List Int) := (impl_sessionsOf.f k l1).bind fun t10 => ((slices_DeleteFunc_int_int_at_impl_Doc_conflicts_1.f k t10 a2_0 a2_1 a2_2 a0_0 a0_1 l0_2 l1).bind fun t11 => (some t11))
theorem impl_Doc_conflicts.calls (k : Nat) (g0_ : Nat) (a0_0 : Int) (a0_1 : Int) (A0_2 : Option Addr) (c0_2 : Nat) (l0_2 : List (S113)) (A1 : Option Addr) (c1 : Nat) (l1 : List (S39)) (a2_0 : Int) (a2_1 : Int) (a2_2 : Int) (r : List Int) (w : World) (hg0_ : w.heap[g0_]? = some (.cells #[.int .i64 a0_0, .int .i64 a0_1, .slice A0_2 l0_2.length c0_2] 35 (0, 0))) (hr0_2 : Kd.C k113 w A0_2 l0_2.length l0_2) (hc0_2 : l0_2.length ≤ c0_2) (hr1 : Kd.C k39 w A1 l1.length l1) (hc1 : l1.length ≤ c1) (h : impl_Doc_conflicts.f k a0_0 a0_1 l0_2 l1 a2_0 a2_1 a2_2 = some r) :
  Calls Tryz.prog 50 #[.pointer (some ⟨g0_, 0, none⟩), .slice A1 l1.length c1, .agg #[.int .i64 a2_0, .int .i64 a2_1, .int .i64 a2_2]] w fun e w' => ∃ v0_ : Value, e = .returned (v0_) ∧ Kd.R (Kd.int .i64) 3 w' w.heap.size (fun _ => True) v0_ r ∧ Below w.heap.size w w' := by
 have hu39 := Tryz.underlying39
 have HR0_2 := Am hr0_2
 have HC0_2 := Am hc0_2
 clear hr0_2 hc0_2
 have HR1 := Am hr1
 have HC1 := Am hc1
 clear hr1 hc1
 have B0 := Am hg0_
 clear hg0_
 have HB := Am (Below.refl w.heap.size w)
 have H : ((impl_sessionsOf.f k l1).bind fun t16 => ((slices_DeleteFunc_int_int_at_impl_Doc_conflicts_1.f k t16 a2_0 a2_1 a2_2 a0_0 a0_1 l0_2 l1).bind fun t17 => (some t17))) = some r := h
 clear h
 obtain ⟨t16, A4, H⟩ := Xbi H
 try dsimp only at H
 obtain ⟨t17, A5, H⟩ := Xbi H
 try dsimp only at H
 obtain rfl := Xsi H
 go_enter Tryz.func50, Tryz.ntmps50
 go_wp2_with (first | ((with_reducible refine gate_dst (N := 3) rfl ?_); refine Xbx 3 #[.pointer (some ⟨g0_, 0, none⟩)] 115 ?_; intro gb18 hg w6 B18 GE18 hb; replace HB := Xhb hb; have NB0_18 := Xnb hg B0; have NB18_0 := Xns NB0_18; replace B0 := Xbb B0 hb; clear hb hg) | ((with_reducible refine gate_dst (N := 4) rfl ?_); refine Xbx 4 #[.slice A1 l1.length c1] 37 ?_; intro gb19 hg w7 B19 GE19 hb; replace HB := Xhb hb; have NB0_19 := Xnb hg B0; have NB19_0 := Xns NB0_19; replace B0 := Xbb B0 hb; have NB18_19 := Xnb hg B18; have NB19_18 := Xns NB18_19; replace B18 := Xbb B18 hb; clear hb hg) | ((with_reducible refine gate_dst (N := 5) rfl ?_); refine Xbx 5 #[.int .i64 a2_0, .int .i64 a2_1, .int .i64 a2_2] 39 ?_; intro gb20 hg w8 B20 GE20 hb; replace HB := Xhb hb; have NB0_20 := Xnb hg B0; have NB20_0 := Xns NB0_20; replace B0 := Xbb B0 hb; have NB18_20 := Xnb hg B18; have NB20_18 := Xns NB18_20; replace B18 := Xbb B18 hb; have NB19_20 := Xnb hg B19; have NB20_19 := Xns NB19_20; replace B19 := Xbb B19 hb; clear hb hg; have hnb9 := NB19_0.out; have hnc9 := NB0_19.out; have hnb10 := NB19_18.out; have hnc10 := NB18_19.out; have hnb11 := NB19_20.out; have hnc11 := NB20_19.out; have Z12_0 := (blk_cell B19.out 0).trans XW.i0) | ((with_reducible refine gate_callee (f := 94) rfl ?_); refine Xgo 8 Tryz.func94 #[.slice A1 l1.length c1] ?_; (with_reducible refine (impl_sessionsOf.calls k _ _ l1 t16 _ ?s1 ?s2 A4.out).mono ?_); (case s1 => exact Xc HR1); (case s2 => exact HC1.out); rintro e w13 ⟨v635, rfl, ho0, hb⟩; refine ⟨_, rfl, ?_⟩; have HO21 := Am (Kd.R_lower ho0 (below_size Xi)); replace B0 := Xbb B0 hb; replace B18 := Xbb B18 hb; replace B19 := Xbb B19 hb; replace B20 := Xbb B20 hb; replace HB := Xhb hb; clear hb; (try clear ho0); obtain ⟨Ao14, co14, eo14⟩ := Kd.R_slice HO21.out; subst eo14) | ((with_reducible refine gate_callee (f := 93) rfl ?_); refine Xgo 10 Tryz.func93 #[.slice Ao14 t16.length co14, .func (.func 95) #[] #[.pointer (some ⟨gb20, 0, none⟩), .pointer (some ⟨gb18, 0, none⟩), .pointer (some ⟨gb19, 0, none⟩)]] ?_; (with_reducible refine (slices_DeleteFunc_int_int_at_impl_Doc_conflicts_1.calls k (fun k_ => some k_ = (.slice Ao14 t16.length co14 : Value).ownBlock) (.slice Ao14 t16.length co14) t16 gb20 gb18 g0_ gb19 a2_0 a2_1 a2_2 a0_0 a0_1 A0_2 c0_2 l0_2 A1 c1 l1 t17 w _ ?s1 ?s2 ?s3 ?s4 ?s5 ?s6 ?s7 ?s8 ?s9 ?s10 A5.out).mono ?_); (case s1 => exact Xi); (case s2 => exact Kd.R_tight rfl HO21.out); (case s3 => exact B20.out); (case s4 => exact B0.out); (case s5 => exact B18.out); (case s6 => exact B19.out); (case s7 => exact Kd.C_kept_came k113_heap HR0_2.out Xi (fun k_ hs_ => (fun e_ => Kd.R_base HO21.out k_ e_.symm) hs_)); (case s8 => exact HC0_2.out); (case s9 => exact Kd.C_kept_came k39_heap HR1.out Xi (fun k_ hs_ => (fun e_ => Kd.R_base HO21.out k_ e_.symm) hs_)); (case s10 => exact HC1.out); rintro e w15 ⟨v638, rfl, ho0, hb, hkp⟩; refine ⟨_, rfl, ?_⟩; replace B0 := Am (blk_kept B0.out hkp (fun hs_ => (fun e_ => (Kd.R_ne HO21.out B0.out (by decide)) e_) hs_)); replace B18 := Am (blk_kept B18.out hkp (fun hs_ => (fun e_ => (Kd.R_ne HO21.out B18.out (by decide)) e_) hs_)); replace B19 := Am (blk_kept B19.out hkp (fun hs_ => (fun e_ => (Kd.R_ne HO21.out B19.out (by decide)) e_) hs_)); replace B20 := Am (blk_kept B20.out hkp (fun hs_ => (fun e_ => (Kd.R_ne HO21.out B20.out (by decide)) e_) hs_)); have HO22 := Am (Kd.R_mono (ok' := fun k_ => True) ho0 (fun k_ hk_ => trivial)); replace HB := Am (hb); clear HO21; (try clear hb); (try clear hkp); (try clear ho0)))
 go_ret
 exact ⟨_, Xe, Xq HO22, Xi⟩
def impl_Doc_rival_1.f (k : Nat) (a0 : Int) (l1_0 : List Int) (a2_0 : Int) (a2_1 : Int) (l2_2 : List (S113)) (l3_0 : List (S39)) (a4_0 : Int) (a4_1 : Int) (a4_2 : Int) (a5_0 : Int) (a5_1 : Int) (a5_2 : Int) : Option (Bool) := (slices_Contains_int_int.f k l1_0 a0).bind fun t10 => (if t10 = true then ((impl_Doc_wanted.f k a2_0 a2_1 l2_2 l3_0 a4_0 a4_1 a4_2 a0).bind fun t11 => ((impl_Doc_wanted.f k a2_0 a2_1 l2_2 l3_0 a5_0 a5_1 a5_2 a0).bind fun t12 => ((impl_compatible.f t11 t12).bind fun t13 => (some (!t13))))) else (some false))
def impl_Doc_rival_1.T1 : Bool × List (List Nat × List Nat) := (true, [([], []), ([], []), ([0, 1], [0, 1]), ([2, 2], [2]), ([3], [3]), ([3], [3]), ([3], [3]), ([3], [3]), ([4, 5, 6, 7, 3, 3], [3, 4, 5, 6, 7]), ([3], [3]), ([3], [3]), ([3], [3]), ([3], [3]), ([9, 10, 11, 12, 8, 3], [3, 9, 10, 11, 12]), ([8, 13, 13, 3], [3, 8, 13]), ([14, 3], [3, 14]), ([3, 15], [3, 15]), ([16, 14, 0, 1, 2, 3, 4, 5, 6, 7, 8, 9, 10, 11, 12, 13, 14, 15, 16], [16])])
def impl_Doc_rival_1.B1 : List Nat := [0, 0, 3, 7, 15, 15, 15, 15, 255, 15, 15, 15, 15, 8191, 16383, 32767, 65535, 131071]
theorem impl_Doc_rival_1.tab1 : rtab .any (opsOf Tryz.f150 1) = impl_Doc_rival_1.T1 := by kernel_rfl
theorem impl_Doc_rival_1.bits1 : waitsOk impl_Doc_rival_1.T1.2 impl_Doc_rival_1.B1 = true := by kernel_rfl
theorem impl_Doc_rival_1.calls (k : Nat) (a0 : Int) (g1_ : Nat) (A1_0 : Option Addr) (c1_0 : Nat) (l1_0 : List Int) (g2_ : Nat) (q2_ : Nat) (a2_0 : Int) (a2_1 : Int) (A2_2 : Option Addr) (c2_2 : Nat) (l2_2 : List (S113)) (g3_ : Nat) (A3_0 : Option Addr) (c3_0 : Nat) (l3_0 : List (S39)) (g4_ : Nat) (a4_0 : Int) (a4_1 : Int) (a4_2 : Int) (g5_ : Nat) (a5_0 : Int) (a5_1 : Int) (a5_2 : Int) (r : Bool) (w : World) (hg1_ : w.heap[g1_]? = some (.cells #[.slice A1_0 l1_0.length c1_0] 30 (0, 0))) (hr1_0 : Kd.C (Kd.int .i64) w A1_0 l1_0.length l1_0) (hc1_0 : l1_0.length ≤ c1_0) (hq2_ : w.heap[q2_]? = some (.cells #[.int .i64 a2_0, .int .i64 a2_1, .slice A2_2 l2_2.length c2_2] 35 (0, 0))) (hg2_ : w.heap[g2_]? = some (.cells #[.pointer (some ⟨q2_, 0, none⟩)] 115 (0, 0))) (hr2_2 : Kd.C k113 w A2_2 l2_2.length l2_2) (hc2_2 : l2_2.length ≤ c2_2) (hg3_ : w.heap[g3_]? = some (.cells #[.slice A3_0 l3_0.length c3_0] 37 (0, 0))) (hr3_0 : Kd.C k39 w A3_0 l3_0.length l3_0) (hc3_0 : l3_0.length ≤ c3_0) (hg4_ : w.heap[g4_]? = some (.cells #[.int .i64 a4_0, .int .i64 a4_1, .int .i64 a4_2] 39 (0, 0))) (hg5_ : w.heap[g5_]? = some (.cells #[.int .i64 a5_0, .int .i64 a5_1, .int .i64 a5_2] 39 (0, 0))) (h : impl_Doc_rival_1.f k a0 l1_0 a2_0 a2_1 l2_2 l3_0 a4_0 a4_1 a4_2 a5_0 a5_1 a5_2 = some r) :
  Calls Tryz.prog 150 #[.int .i64 a0, .pointer (some ⟨g1_, 0, none⟩), .pointer (some ⟨g2_, 0, none⟩), .pointer (some ⟨g3_, 0, none⟩), .pointer (some ⟨g4_, 0, none⟩), .pointer (some ⟨g5_, 0, none⟩)] w fun e w' => e = .returned (.bool r) ∧ Below w.heap.size w w' := by
 have hu39 := Tryz.underlying39
 have HR1_0 := Am hr1_0
 have HC1_0 := Am hc1_0
 clear hr1_0 hc1_0
 have HR2_2 := Am hr2_2
 have HC2_2 := Am hc2_2
 clear hr2_2 hc2_2
 have HR3_0 := Am hr3_0
 have HC3_0 := Am hc3_0
 clear hr3_0 hc3_0
 have B1 := Am hg1_
 clear hg1_
 have B82 := Am hq2_
 clear hq2_
 have B2 := Am hg2_
 clear hg2_
 have B3 := Am hg3_
 clear hg3_
 have B4 := Am hg4_
 clear hg4_
 have B5 := Am hg5_
 clear hg5_
 have HB := Am (Below.refl w.heap.size w)
 have H : ((slices_Contains_int_int.f k l1_0 a0).bind fun t17 => (if t17 = true then ((impl_Doc_wanted.f k a2_0 a2_1 l2_2 l3_0 a4_0 a4_1 a4_2 a0).bind fun t18 => ((impl_Doc_wanted.f k a2_0 a2_1 l2_2 l3_0 a5_0 a5_1 a5_2 a0).bind fun t19 => ((impl_compatible.f t18 t19).bind fun t20 => (some (!t20))))) else (some false))) = some r := h
 clear h
 obtain ⟨t17, A7, H⟩ := Xbi H
 try dsimp only at H
 by_cases c8 : t17 = true
 ·subst c8
  try rw [if_pos rfl] at H
  obtain ⟨t18, A9, H⟩ := Xbi H
  try dsimp only at H
  obtain ⟨t19, A10, H⟩ := Xbi H
  try dsimp only at H
  obtain ⟨t20, A11, H⟩ := Xbi H
  try dsimp only at H
  obtain rfl := Xsi H
  go_enter Tryz.func150, Tryz.ntmps150
  try go_wp2_with (fail)
  replace B1 := Xbd B1
  replace B82 := Xbd B82
  replace B2 := Xbd B2
  replace B3 := Xbd B3
  replace B4 := Xbd B4
  replace B5 := Xbd B5
  replace HB := Xhd HB
  refine Sx 18 (fun w' => w'.cell? ⟨g1_, 0, none⟩ = some (.slice A1_0 l1_0.length c1_0) ∧ w'.cell? ⟨g2_, 0, none⟩ = some (.pointer (some ⟨q2_, 0, none⟩)) ∧ w'.cell? ⟨g3_, 0, none⟩ = some (.slice A3_0 l3_0.length c3_0) ∧ w'.cell? ⟨g4_, 0, none⟩ = some (.int .i64 a4_0) ∧ w'.cell? ⟨g4_, 1, none⟩ = some (.int .i64 a4_1) ∧ w'.cell? ⟨g4_, 2, none⟩ = some (.int .i64 a4_2) ∧ w'.cell? ⟨g5_, 0, none⟩ = some (.int .i64 a5_0) ∧ w'.cell? ⟨g5_, 1, none⟩ = some (.int .i64 a5_1) ∧ w'.cell? ⟨g5_, 2, none⟩ = some (.int .i64 a5_2)) ⟨Xk B1 0, Xk B2 0, Xk B3 0, Xk B4 0, Xk B4 1, Xk B4 2, Xk B5 0, Xk B5 1, Xk B5 2⟩ (fun hHeld => ?_); refine with_tabW impl_Doc_rival_1.tab1 impl_Doc_rival_1.bits1 (fun HT_ HW_ => ?_)
  generalize w.drew = w12 at B1 B82 B2 B3 B4 B5 HB hHeld ⊢
  refine Pu 1 9 18 2 ?_
  refine Ta 0 8 18 3 ?_
  refine On 2 10 18 7 (fun K hK => ?_)
  refine Gs Tryz.func116 #[.slice A1_0 l1_0.length c1_0, .int .i64 a0] ?_
  with_reducible refine (slices_Contains_int_int.calls k _ _ l1_0 a0 true _ ?s1 ?s2 A7.out).mono ?_
  (case s1 => exact Xc HR1_0)
  (case s2 => exact HC1_0.out)
  rintro e w' ⟨rfl, ⟨nd, rfl⟩⟩
  refine ⟨_, rfl, ?_⟩
  refine hK.out _ _ ⟨Xk B1 0, Xk B2 0, Xk B3 0, Xk B4 0, Xk B4 1, Xk B4 2, Xk B5 0, Xk B5 1, Xk B5 2⟩ (fun hHeld => ?_)
  clear hK K
  refine Xno ?_
  refine Pu 3 11 18 15 ?_
  refine Pu 7 15 18 143 ?_
  refine Pu 12 20 18 4239 ?_
  refine Ta 4 12 18 4255 ?_
  refine Ta 5 13 18 4287 ?_
  refine Ta 6 14 18 4351 ?_
  refine Ta 9 17 18 4863 ?_
  refine Ta 10 18 18 5887 ?_
  refine Ta 11 19 18 7935 ?_
  refine On 8 16 18 8191 (fun K hK => ?_)
  refine Gs Tryz.func99 #[.pointer (some ⟨q2_, 0, none⟩), .slice A3_0 l3_0.length c3_0, .agg #[.int .i64 a4_0, .int .i64 a4_1, .int .i64 a4_2], .int .i64 a0] ?_
  with_reducible refine (impl_Doc_wanted.calls k q2_ a2_0 a2_1 A2_2 c2_2 l2_2 _ _ l3_0 a4_0 a4_1 a4_2 a0 t18 _ ?s1 ?s2 ?s3 ?s4 ?s5 A9.out).mono ?_
  (case s1 => exact B82.out)
  (case s2 => exact Xc HR2_2)
  (case s3 => exact HC2_2.out)
  (case s4 => exact Xc HR3_0)
  (case s5 => exact HC3_0.out)
  rintro e w13 ⟨rfl, hb⟩
  refine ⟨_, rfl, ?_⟩
  replace B1 := Xbb B1 hb
  replace B82 := Xbb B82 hb
  replace B2 := Xbb B2 hb
  replace B3 := Xbb B3 hb
  replace B4 := Xbb B4 hb
  replace B5 := Xbb B5 hb
  replace HB := Xhb hb
  try clear hb
  try clear hb2
  try clear hk
  try clear hi
  refine hK.out _ _ ⟨Xk B1 0, Xk B2 0, Xk B3 0, Xk B4 0, Xk B4 1, Xk B4 2, Xk B5 0, Xk B5 1, Xk B5 2⟩ (fun hHeld => ?_)
  clear hK K
  refine Xno ?_
  refine On 13 21 18 16383 (fun K hK => ?_)
  refine Gs Tryz.func99 #[.pointer (some ⟨q2_, 0, none⟩), .slice A3_0 l3_0.length c3_0, .agg #[.int .i64 a5_0, .int .i64 a5_1, .int .i64 a5_2], .int .i64 a0] ?_
  with_reducible refine (impl_Doc_wanted.calls k q2_ a2_0 a2_1 A2_2 c2_2 l2_2 _ _ l3_0 a5_0 a5_1 a5_2 a0 t19 _ ?s1 ?s2 ?s3 ?s4 ?s5 A10.out).mono ?_
  (case s1 => exact B82.out)
  (case s2 => exact Xc HR2_2)
  (case s3 => exact HC2_2.out)
  (case s4 => exact Xc HR3_0)
  (case s5 => exact HC3_0.out)
  rintro e w14 ⟨rfl, hb⟩
  refine ⟨_, rfl, ?_⟩
  replace B1 := Xbb B1 hb
  replace B82 := Xbb B82 hb
  replace B2 := Xbb B2 hb
  replace B3 := Xbb B3 hb
  replace B4 := Xbb B4 hb
  replace B5 := Xbb B5 hb
  replace HB := Xhb hb
  try clear hb
  try clear hb2
  try clear hk
  try clear hi
  refine hK.out _ _ ⟨Xk B1 0, Xk B2 0, Xk B3 0, Xk B4 0, Xk B4 1, Xk B4 2, Xk B5 0, Xk B5 1, Xk B5 2⟩ (fun hHeld => ?_)
  clear hK K
  refine Xno ?_
  refine On 14 22 18 32767 (fun K hK => ?_)
  refine Gs Tryz.func98 #[.int .i64 t18, .int .i64 t19] ?_
  with_reducible refine (impl_compatible.calls t18 t19 t20 _ A11.out).mono ?_
  rintro e w15 ⟨rfl, hb⟩
  refine ⟨_, rfl, ?_⟩
  replace B1 := Xbb B1 hb
  replace B82 := Xbb B82 hb
  replace B2 := Xbb B2 hb
  replace B3 := Xbb B3 hb
  replace B4 := Xbb B4 hb
  replace B5 := Xbb B5 hb
  replace HB := Xhb hb
  try clear hb
  try clear hb2
  try clear hk
  try clear hi
  refine hK.out _ _ ⟨Xk B1 0, Xk B2 0, Xk B3 0, Xk B4 0, Xk B4 1, Xk B4 2, Xk B5 0, Xk B5 1, Xk B5 2⟩ (fun hHeld => ?_)
  clear hK K
  refine Xno ?_
  refine Pu 15 23 18 65535 ?_
  refine Pu 16 24 18 131071 ?_
  refine Pu 17 7 18 262143 ?_
  refine Dn ?_
  try go_wp2_with (fail)
  go_ret
  exact ⟨Xe, Xi⟩
 replace c8 := Xbf c8
 subst c8
 try rw [if_neg Xft] at H
 obtain rfl := Xsi H
 go_enter Tryz.func150, Tryz.ntmps150
 try go_wp2_with (fail)
 replace B1 := Xbd B1
 replace B82 := Xbd B82
 replace B2 := Xbd B2
 replace B3 := Xbd B3
 replace B4 := Xbd B4
 replace B5 := Xbd B5
 replace HB := Xhd HB
 refine start_ (n := 18) (S := fun w' => w'.cell? ⟨g1_, 0, none⟩ = some (.slice A1_0 l1_0.length c1_0)) (ds := []) #[false, false, false, false, false, false, false, false, false, false, false, false, false, false, false, false, false, false] (by kernel_rfl) rfl rfl (Xk B1 0) (fun hHeld => ?_); refine with_tabW impl_Doc_rival_1.tab1 impl_Doc_rival_1.bits1 (fun HT_ HW_ => ?_)
 generalize w.drew = w16 at B1 B82 B2 B3 B4 B5 HB hHeld ⊢
 refine Pu 1 9 18 2 ?_
 refine take_ (i := 0) (N := some 8) (v := ?_) (a' := ?_) (XW.bs 18 3) rfl rfl (take_ofW HT_.out HW_.out (by kernel_rfl)) (fun _ _ _ h => h) (Or.inl ⟨by rfl, ?_⟩) hHeld ?_ ?_
 rotate_left
 ·intro w' s0
  go_simp
  with_reducible rfl
 rotate_left
 ·simp only [XW.q0, XW.q1, XW.q2, i64_w, i32_w]
  rfl
 refine On 2 10 18 7 (fun K hK => ?_)
 refine Gs Tryz.func116 #[.slice A1_0 l1_0.length c1_0, .int .i64 a0] ?_
 with_reducible refine (slices_Contains_int_int.calls k _ _ l1_0 a0 false _ ?s1 ?s2 A7.out).mono ?_
 (case s1 => exact Xc HR1_0)
 (case s2 => exact HC1_0.out)
 rintro e w' ⟨rfl, ⟨nd, rfl⟩⟩
 refine ⟨_, rfl, ?_⟩
 refine hK.out _ _ (Xk B1 0) (fun hHeld => ?_)
 clear hK K
 refine Xno ?_
 refine Pu 3 11 18 15 ?_
 refine Pn 4 12 18 31 ?_
 refine Pn 5 13 18 63 ?_
 refine Pn 6 14 18 127 ?_
 refine Pn 7 15 18 255 ?_
 refine Pn 8 16 18 511 ?_
 refine Pn 9 17 18 1023 ?_
 refine Pn 10 18 18 2047 ?_
 refine Pn 11 19 18 4095 ?_
 refine Pn 12 20 18 8191 ?_
 refine Pn 13 21 18 16383 ?_
 refine Pn 14 22 18 32767 ?_
 refine Pn 15 23 18 65535 ?_
 refine Pu 16 24 18 131071 ?_
 refine Pu 17 7 18 262143 ?_
 refine Dn ?_
 try go_wp2_with (fail)
 go_ret
 exact ⟨Xe, Xi⟩
def slices_IndexFunc_int_int_at_impl_Doc_rival_1.l0 : Nat → List Int → Int → Int → List Int → List (S39) → Int → Int → Int → Int → Int → Int → Int → Int → List (S113) → Option (Int)
 | 0, _, _, _, _, _, _, _, _, _, _, _, _, _, _ => none
 | k + 1, x0, x7, x8, x26000, x28000, x29000, x29001, x29002, x30000, x30001, x30002, x57000, x57001, x57002 => if x8 < x7 then (if 0 ≤ x8 then (if x8 < (x0.length : Int) then ((impl_Doc_rival_1.f k (rd x0 x8) x26000 x57000 x57001 x57002 x28000 x29000 x29001 x29002 x30000 x30001 x30002).bind fun t10 => (if t10 = true then (some x8) else (slices_IndexFunc_int_int_at_impl_Doc_rival_1.l0 k x0 x7 (wrap64 (x8 + 1)) x26000 x28000 x29000 x29001 x29002 x30000 x30001 x30002 x57000 x57001 x57002))) else (none)) else (none)) else (some (-1))
def slices_IndexFunc_int_int_at_impl_Doc_rival_1.f (k : Nat) (l0 : List Int) (l1_0_0 : List Int) (a1_1_0 : Int) (a1_1_1 : Int) (l1_1_2 : List (S113)) (l1_2_0 : List (S39)) (a1_3_0 : Int) (a1_3_1 : Int) (a1_3_2 : Int) (a1_4_0 : Int) (a1_4_1 : Int) (a1_4_2 : Int) : Option (Int) := slices_IndexFunc_int_int_at_impl_Doc_rival_1.l0 k l0 (l0.length : Int) 0 l1_0_0 l1_2_0 a1_3_0 a1_3_1 a1_3_2 a1_4_0 a1_4_1 a1_4_2 a1_1_0 a1_1_1 l1_1_2
theorem slices_IndexFunc_int_int_at_impl_Doc_rival_1.calls (k : Nat) (A0 : Option Addr) (c0 : Nat) (l0 : List Int) (g1_0_ : Nat) (g1_1_ : Nat) (q1_1_ : Nat) (g1_2_ : Nat) (g1_3_ : Nat) (g1_4_ : Nat) (A1_0_0 : Option Addr) (c1_0_0 : Nat) (l1_0_0 : List Int) (a1_1_0 : Int) (a1_1_1 : Int) (A1_1_2 : Option Addr) (c1_1_2 : Nat) (l1_1_2 : List (S113)) (A1_2_0 : Option Addr) (c1_2_0 : Nat) (l1_2_0 : List (S39)) (a1_3_0 : Int) (a1_3_1 : Int) (a1_3_2 : Int) (a1_4_0 : Int) (a1_4_1 : Int) (a1_4_2 : Int) (r : Int) (w : World) (hr0 : Kd.C (Kd.int .i64) w A0 l0.length l0) (hc0 : l0.length ≤ c0) (hg1_0_ : w.heap[g1_0_]? = some (.cells #[.slice A1_0_0 l1_0_0.length c1_0_0] 30 (0, 0))) (hq1_1_ : w.heap[q1_1_]? = some (.cells #[.int .i64 a1_1_0, .int .i64 a1_1_1, .slice A1_1_2 l1_1_2.length c1_1_2] 35 (0, 0))) (hg1_1_ : w.heap[g1_1_]? = some (.cells #[.pointer (some ⟨q1_1_, 0, none⟩)] 115 (0, 0))) (hg1_2_ : w.heap[g1_2_]? = some (.cells #[.slice A1_2_0 l1_2_0.length c1_2_0] 37 (0, 0))) (hg1_3_ : w.heap[g1_3_]? = some (.cells #[.int .i64 a1_3_0, .int .i64 a1_3_1, .int .i64 a1_3_2] 39 (0, 0))) (hg1_4_ : w.heap[g1_4_]? = some (.cells #[.int .i64 a1_4_0, .int .i64 a1_4_1, .int .i64 a1_4_2] 39 (0, 0))) (hr1_0_0 : Kd.C (Kd.int .i64) w A1_0_0 l1_0_0.length l1_0_0) (hc1_0_0 : l1_0_0.length ≤ c1_0_0) (hr1_1_2 : Kd.C k113 w A1_1_2 l1_1_2.length l1_1_2) (hc1_1_2 : l1_1_2.length ≤ c1_1_2) (hr1_2_0 : Kd.C k39 w A1_2_0 l1_2_0.length l1_2_0) (hc1_2_0 : l1_2_0.length ≤ c1_2_0) (h : slices_IndexFunc_int_int_at_impl_Doc_rival_1.f k l0 l1_0_0 a1_1_0 a1_1_1 l1_1_2 l1_2_0 a1_3_0 a1_3_1 a1_3_2 a1_4_0 a1_4_1 a1_4_2 = some r) :
  Calls Tryz.prog 148 #[.slice A0 l0.length c0, .func (.func 150) #[] #[.pointer (some ⟨g1_0_, 0, none⟩), .pointer (some ⟨g1_1_, 0, none⟩), .pointer (some ⟨g1_2_, 0, none⟩), .pointer (some ⟨g1_3_, 0, none⟩), .pointer (some ⟨g1_4_, 0, none⟩)]] w fun e w' => e = .returned (.int .i64 r) ∧ Below w.heap.size w w' := by
 have HR0 := Am hr0
 have HC0 := Am hc0
 clear hr0 hc0
 have HR1_0_0 := Am hr1_0_0
 have HC1_0_0 := Am hc1_0_0
 clear hr1_0_0 hc1_0_0
 have HR1_1_2 := Am hr1_1_2
 have HC1_1_2 := Am hc1_1_2
 clear hr1_1_2 hc1_1_2
 have HR1_2_0 := Am hr1_2_0
 have HC1_2_0 := Am hc1_2_0
 clear hr1_2_0 hc1_2_0
 have B25 := Am hg1_0_
 clear hg1_0_
 have B56 := Am hq1_1_
 clear hq1_1_
 have B26 := Am hg1_1_
 clear hg1_1_
 have B27 := Am hg1_2_
 clear hg1_2_
 have B28 := Am hg1_3_
 clear hg1_3_
 have B29 := Am hg1_4_
 clear hg1_4_
 have HB := Am (Below.refl w.heap.size w)
 have H : (slices_IndexFunc_int_int_at_impl_Doc_rival_1.l0 k l0 (l0.length : Int) 0 l1_0_0 l1_2_0 a1_3_0 a1_3_1 a1_3_2 a1_4_0 a1_4_1 a1_4_2 a1_1_0 a1_1_1 l1_1_2) = some r := h
 clear h
 have H' := Am H
 clear H
 go_enter Tryz.func148, Tryz.ntmps148
 go_wp2
 go_loopg [8] k (fun kq v8 w' => ∃ (x8_1 : Int), v8 = .int .i64 x8_1 ∧ Aside0 (slices_IndexFunc_int_int_at_impl_Doc_rival_1.l0 kq l0 (l0.length : Int) x8_1 l1_0_0 l1_2_0 a1_3_0 a1_3_1 a1_3_2 a1_4_0 a1_4_1 a1_4_2 a1_1_0 a1_1_1 l1_1_2 = some r) ∧ Aside0 (kq ≤ k) ∧ Aside0 (w'.heap[g1_0_]? = some (.cells #[(.slice A1_0_0 l1_0_0.length c1_0_0)] 30 (0, 0))) ∧ Aside0 (w'.heap[q1_1_]? = some (.cells #[.int .i64 a1_1_0, .int .i64 a1_1_1, (.slice A1_1_2 l1_1_2.length c1_1_2)] 35 (0, 0))) ∧ Aside0 (w'.heap[g1_1_]? = some (.cells #[.pointer (some ⟨q1_1_, 0, none⟩)] 115 (0, 0))) ∧ Aside0 (w'.heap[g1_2_]? = some (.cells #[(.slice A1_2_0 l1_2_0.length c1_2_0)] 37 (0, 0))) ∧ Aside0 (w'.heap[g1_3_]? = some (.cells #[.int .i64 a1_3_0, .int .i64 a1_3_1, .int .i64 a1_3_2] 39 (0, 0))) ∧ Aside0 (w'.heap[g1_4_]? = some (.cells #[.int .i64 a1_4_0, .int .i64 a1_4_1, .int .i64 a1_4_2] 39 (0, 0))) ∧ Aside0 (Below w.heap.size w w'))
 case atStart => exact ⟨(0), Xr, H', Xkr, B25, B56, B26, B27, B28, B29, ⟨Xi⟩⟩
 clear H'
 obtain ⟨x8_1, rfl, HA, HK1, B25, B56, B26, B27, B28, B29, HB⟩ := hrel
 cases gk with | zero => cases HA.out | succ k1 => ?_
 have H := HA.out
 clear HA
 simp only [slices_IndexFunc_int_int_at_impl_Doc_rival_1.l0] at H
 obtain ⟨c3b0, H⟩ | ⟨c3b0, H⟩ := Xit H
 ·obtain ⟨c4b0, H⟩ := Xid H
  obtain ⟨c5b0, H⟩ := Xid H
  obtain ⟨t13, A6, H⟩ := Xbi H
  try dsimp only at H
  have HC7 := Am H
  clear H
  have p14 : 0 ≤ (x8_1 : Int) := Xo
  have q14 : x8_1 < (l0.length : Int) := Xo
  obtain ⟨ad14, e14, hx14_0⟩ := Kd.at_int HR0.out x8_1 p14 q14
  cases e14
  replace hx14_0 := Xm HB hx14_0
  replace p14 := eq_true p14
  replace q14 := eq_true q14
  go_upto_if 16 with (go_at_call 150; (with_reducible refine (impl_Doc_rival_1.calls k1 (rd l0 x8_1) g1_0_ A1_0_0 c1_0_0 l1_0_0 g1_1_ q1_1_ a1_1_0 a1_1_1 A1_1_2 c1_1_2 l1_1_2 g1_2_ A1_2_0 c1_2_0 l1_2_0 g1_3_ a1_3_0 a1_3_1 a1_3_2 g1_4_ a1_4_0 a1_4_1 a1_4_2 t13 _ ?s1 ?s2 ?s3 ?s4 ?s5 ?s6 ?s7 ?s8 ?s9 ?s10 ?s11 ?s12 A6.out).mono ?_); (case s1 => exact B25.out); (case s2 => exact Xc HR1_0_0); (case s3 => exact HC1_0_0.out); (case s4 => exact B56.out); (case s5 => exact B26.out); (case s6 => exact Xc HR1_1_2); (case s7 => exact HC1_1_2.out); (case s8 => exact B27.out); (case s9 => exact Xc HR1_2_0); (case s10 => exact HC1_2_0.out); (case s11 => exact B28.out); (case s12 => exact B29.out); rintro e w8 ⟨rfl, hb⟩; replace B25 := Xbb B25 hb; replace B56 := Xbb B56 hb; replace B26 := Xbb B26 hb; replace B27 := Xbb B27 hb; replace B28 := Xbb B28 hb; replace B29 := Xbb B29 hb; replace HB := Xhb hb; clear hb)
  have H := HC7.out
  clear HC7
  by_cases c9 : t13 = true
  ·subst c9
   try rw [if_pos rfl] at H
   obtain rfl := Xsi H
   go_wp2
   go_ret
   exact ⟨Xe, Xi⟩
  replace c9 := Xbf c9
  subst c9
  try rw [if_neg Xft] at H
  have H' := Am H
  clear H
  go_wp2
  go_roundg k1
  case measure => have := HK1.out; omega
  case rel => exact ⟨(wrap64 (x8_1 + 1)), Xr, H', Xk1, B25, B56, B26, B27, B28, B29, ⟨Xi⟩⟩
 obtain rfl := Xsi H
 go_wp2
 go_ret
 exact ⟨Xe, Xi⟩
def slices_ContainsFunc_int_int_at_impl_Doc_rival_1.f (k : Nat) (l0 : List Int) (l1_0_0 : List Int) (a1_1_0 : Int) (a1_1_1 : Int) (l1_1_2 : List (S113)) (l1_2_0 : List (S39)) (a1_3_0 : Int) (a1_3_1 : Int) (a1_3_2 : Int) (a1_4_0 : Int) (a1_4_1 : Int) (a1_4_2 : Int) : Option (Bool) := (slices_IndexFunc_int_int_at_impl_Doc_rival_1.f k l0 l1_0_0 a1_1_0 a1_1_1 l1_1_2 l1_2_0 a1_3_0 a1_3_1 a1_3_2 a1_4_0 a1_4_1 a1_4_2).bind fun t10 => (some (decide (t10 ≥ 0)))
theorem slices_ContainsFunc_int_int_at_impl_Doc_rival_1.calls (k : Nat) (A0 : Option Addr) (c0 : Nat) (l0 : List Int) (g1_0_ : Nat) (g1_1_ : Nat) (q1_1_ : Nat) (g1_2_ : Nat) (g1_3_ : Nat) (g1_4_ : Nat) (A1_0_0 : Option Addr) (c1_0_0 : Nat) (l1_0_0 : List Int) (a1_1_0 : Int) (a1_1_1 : Int) (A1_1_2 : Option Addr) (c1_1_2 : Nat) (l1_1_2 : List (S113)) (A1_2_0 : Option Addr) (c1_2_0 : Nat) (l1_2_0 : List (S39)) (a1_3_0 : Int) (a1_3_1 : Int) (a1_3_2 : Int) (a1_4_0 : Int) (a1_4_1 : Int) (a1_4_2 : Int) (r : Bool) (w : World) (hr0 : Kd.C (Kd.int .i64) w A0 l0.length l0) (hc0 : l0.length ≤ c0) (hg1_0_ : w.heap[g1_0_]? = some (.cells #[.slice A1_0_0 l1_0_0.length c1_0_0] 30 (0, 0))) (hq1_1_ : w.heap[q1_1_]? = some (.cells #[.int .i64 a1_1_0, .int .i64 a1_1_1, .slice A1_1_2 l1_1_2.length c1_1_2] 35 (0, 0))) (hg1_1_ : w.heap[g1_1_]? = some (.cells #[.pointer (some ⟨q1_1_, 0, none⟩)] 115 (0, 0))) (hg1_2_ : w.heap[g1_2_]? = some (.cells #[.slice A1_2_0 l1_2_0.length c1_2_0] 37 (0, 0))) (hg1_3_ : w.heap[g1_3_]? = some (.cells #[.int .i64 a1_3_0, .int .i64 a1_3_1, .int .i64 a1_3_2] 39 (0, 0))) (hg1_4_ : w.heap[g1_4_]? = some (.cells #[.int .i64 a1_4_0, .int .i64 a1_4_1, .int .i64 a1_4_2] 39 (0, 0))) (hr1_0_0 : Kd.C (Kd.int .i64) w A1_0_0 l1_0_0.length l1_0_0) (hc1_0_0 : l1_0_0.length ≤ c1_0_0) (hr1_1_2 : Kd.C k113 w A1_1_2 l1_1_2.length l1_1_2) (hc1_1_2 : l1_1_2.length ≤ c1_1_2) (hr1_2_0 : Kd.C k39 w A1_2_0 l1_2_0.length l1_2_0) (hc1_2_0 : l1_2_0.length ≤ c1_2_0) (h : slices_ContainsFunc_int_int_at_impl_Doc_rival_1.f k l0 l1_0_0 a1_1_0 a1_1_1 l1_1_2 l1_2_0 a1_3_0 a1_3_1 a1_3_2 a1_4_0 a1_4_1 a1_4_2 = some r) :
  Calls Tryz.prog 96 #[.slice A0 l0.length c0, .func (.func 150) #[] #[.pointer (some ⟨g1_0_, 0, none⟩), .pointer (some ⟨g1_1_, 0, none⟩), .pointer (some ⟨g1_2_, 0, none⟩), .pointer (some ⟨g1_3_, 0, none⟩), .pointer (some ⟨g1_4_, 0, none⟩)]] w fun e w' => e = .returned (.bool r) ∧ Below w.heap.size w w' := by
 have HR0 := Am hr0
 have HC0 := Am hc0
 clear hr0 hc0
 have HR1_0_0 := Am hr1_0_0
 have HC1_0_0 := Am hc1_0_0
 clear hr1_0_0 hc1_0_0
 have HR1_1_2 := Am hr1_1_2
 have HC1_1_2 := Am hc1_1_2
 clear hr1_1_2 hc1_1_2
 have HR1_2_0 := Am hr1_2_0
 have HC1_2_0 := Am hc1_2_0
 clear hr1_2_0 hc1_2_0
 have B25 := Am hg1_0_
 clear hg1_0_
 have B56 := Am hq1_1_
 clear hq1_1_
 have B26 := Am hg1_1_
 clear hg1_1_
 have B27 := Am hg1_2_
 clear hg1_2_
 have B28 := Am hg1_3_
 clear hg1_3_
 have B29 := Am hg1_4_
 clear hg1_4_
 have HB := Am (Below.refl w.heap.size w)
 have H : ((slices_IndexFunc_int_int_at_impl_Doc_rival_1.f k l0 l1_0_0 a1_1_0 a1_1_1 l1_1_2 l1_2_0 a1_3_0 a1_3_1 a1_3_2 a1_4_0 a1_4_1 a1_4_2).bind fun t15 => (some (decide (t15 ≥ 0)))) = some r := h
 clear h
 obtain ⟨t15, A3, H⟩ := Xbi H
 try dsimp only at H
 obtain rfl := Xsi H
 go_enter Tryz.func96, Tryz.ntmps96
 go_wp2_with (first | ((with_reducible refine gate_callee (f := 148) rfl ?_); refine Xgo 7 Tryz.func148 #[.slice A0 l0.length c0, .func (.func 150) #[] #[.pointer (some ⟨g1_0_, 0, none⟩), .pointer (some ⟨g1_1_, 0, none⟩), .pointer (some ⟨g1_2_, 0, none⟩), .pointer (some ⟨g1_3_, 0, none⟩), .pointer (some ⟨g1_4_, 0, none⟩)]] ?_; (with_reducible refine (slices_IndexFunc_int_int_at_impl_Doc_rival_1.calls k _ _ l0 g1_0_ g1_1_ q1_1_ g1_2_ g1_3_ g1_4_ A1_0_0 c1_0_0 l1_0_0 a1_1_0 a1_1_1 A1_1_2 c1_1_2 l1_1_2 A1_2_0 c1_2_0 l1_2_0 a1_3_0 a1_3_1 a1_3_2 a1_4_0 a1_4_1 a1_4_2 t15 _ ?s1 ?s2 ?s3 ?s4 ?s5 ?s6 ?s7 ?s8 ?s9 ?s10 ?s11 ?s12 ?s13 ?s14 A3.out).mono ?_); (case s1 => exact Xcd HR0.out); (case s2 => exact HC0.out); (case s3 => exact B25.out); (case s4 => exact B56.out); (case s5 => exact B26.out); (case s6 => exact B27.out); (case s7 => exact B28.out); (case s8 => exact B29.out); (case s9 => exact Xcd HR1_0_0.out); (case s10 => exact HC1_0_0.out); (case s11 => exact Xcd HR1_1_2.out); (case s12 => exact HC1_1_2.out); (case s13 => exact Xcd HR1_2_0.out); (case s14 => exact HC1_2_0.out); rintro e w4 ⟨rfl, hb⟩; refine ⟨_, rfl, ?_⟩; replace B25 := Xbb B25 hb; replace B56 := Xbb B56 hb; replace B26 := Xbb B26 hb; replace B27 := Xbb B27 hb; replace B28 := Xbb B28 hb; replace B29 := Xbb B29 hb; replace HB := Xhb hb; clear hb))
 go_ret
 exact ⟨Xe, Xi⟩
def impl_Doc_rival.f (k : Nat) (a0_0 : Int) (a0_1 : Int) (l0_2 : List (S113)) (l1 : List (S39)) (a2_0 : Int) (a2_1 : Int) (a2_2 : Int) (a3_0 : Int) (a3_1 : Int) (a3_2 : Int) : Option (Bool) := (impl_Doc_path.f k a0_0 a0_1 l0_2 a3_1).bind fun t10 => ((impl_Doc_path.f k a0_0 a0_1 l0_2 a2_1).bind fun t11 => ((slices_ContainsFunc_int_int_at_impl_Doc_rival_1.f k t11 t10 a0_0 a0_1 l0_2 l1 a2_0 a2_1 a2_2 a3_0 a3_1 a3_2).bind fun t12 => (some t12)))
theorem impl_Doc_rival.calls (k : Nat) (g0_ : Nat) (a0_0 : Int) (a0_1 : Int) (A0_2 : Option Addr) (c0_2 : Nat) (l0_2 : List (S113)) (A1 : Option Addr) (c1 : Nat) (l1 : List (S39)) (a2_0 : Int) (a2_1 : Int) (a2_2 : Int) (a3_0 : Int) (a3_1 : Int) (a3_2 : Int) (r : Bool) (w : World) (hg0_ : w.heap[g0_]? = some (.cells #[.int .i64 a0_0, .int .i64 a0_1, .slice A0_2 l0_2.length c0_2] 35 (0, 0))) (hr0_2 : Kd.C k113 w A0_2 l0_2.length l0_2) (hc0_2 : l0_2.length ≤ c0_2) (hr1 : Kd.C k39 w A1 l1.length l1) (hc1 : l1.length ≤ c1) (h : impl_Doc_rival.f k a0_0 a0_1 l0_2 l1 a2_0 a2_1 a2_2 a3_0 a3_1 a3_2 = some r) :
  Calls Tryz.prog 110 #[.pointer (some ⟨g0_, 0, none⟩), .slice A1 l1.length c1, .agg #[.int .i64 a2_0, .int .i64 a2_1, .int .i64 a2_2], .agg #[.int .i64 a3_0, .int .i64 a3_1, .int .i64 a3_2]] w fun e w' => e = .returned (.bool r) ∧ Below w.heap.size w w' := by
 have hu39 := Tryz.underlying39
 have HR0_2 := Am hr0_2
 have HC0_2 := Am hc0_2
 clear hr0_2 hc0_2
 have HR1 := Am hr1
 have HC1 := Am hc1
 clear hr1 hc1
 have B0 := Am hg0_
 clear hg0_
 have HB := Am (Below.refl w.heap.size w)
 have H : ((impl_Doc_path.f k a0_0 a0_1 l0_2 a3_1).bind fun t37 => ((impl_Doc_path.f k a0_0 a0_1 l0_2 a2_1).bind fun t38 => ((slices_ContainsFunc_int_int_at_impl_Doc_rival_1.f k t38 t37 a0_0 a0_1 l0_2 l1 a2_0 a2_1 a2_2 a3_0 a3_1 a3_2).bind fun t40 => (some t40)))) = some r := h
 clear h
 obtain ⟨t37, A5, H⟩ := Xbi H
 try dsimp only at H
 obtain ⟨t38, A6, H⟩ := Xbi H
 try dsimp only at H
 obtain ⟨t40, A7, H⟩ := Xbi H
 try dsimp only at H
 obtain rfl := Xsi H
 go_enter Tryz.func110, Tryz.ntmps110
 go_wp2_with (first | ((with_reducible refine gate_dst (N := 4) rfl ?_); refine Xbx 4 #[.pointer (some ⟨g0_, 0, none⟩)] 115 ?_; intro gb41 hg w8 B41 GE41 hb; replace HB := Xhb hb; have NB0_41 := Xnb hg B0; have NB41_0 := Xns NB0_41; replace B0 := Xbb B0 hb; clear hb hg) | ((with_reducible refine gate_dst (N := 5) rfl ?_); refine Xbx 5 #[.slice A1 l1.length c1] 37 ?_; intro gb42 hg w9 B42 GE42 hb; replace HB := Xhb hb; have NB0_42 := Xnb hg B0; have NB42_0 := Xns NB0_42; replace B0 := Xbb B0 hb; have NB41_42 := Xnb hg B41; have NB42_41 := Xns NB41_42; replace B41 := Xbb B41 hb; clear hb hg) | ((with_reducible refine gate_dst (N := 6) rfl ?_); refine Xbx 6 #[.int .i64 a2_0, .int .i64 a2_1, .int .i64 a2_2] 39 ?_; intro gb43 hg w10 B43 GE43 hb; replace HB := Xhb hb; have NB0_43 := Xnb hg B0; have NB43_0 := Xns NB0_43; replace B0 := Xbb B0 hb; have NB41_43 := Xnb hg B41; have NB43_41 := Xns NB41_43; replace B41 := Xbb B41 hb; have NB42_43 := Xnb hg B42; have NB43_42 := Xns NB42_43; replace B42 := Xbb B42 hb; clear hb hg) | ((with_reducible refine gate_dst (N := 7) rfl ?_); refine Xbx 7 #[.int .i64 a3_0, .int .i64 a3_1, .int .i64 a3_2] 39 ?_; intro gb44 hg w11 B44 GE44 hb; replace HB := Xhb hb; have NB0_44 := Xnb hg B0; have NB44_0 := Xns NB0_44; replace B0 := Xbb B0 hb; have NB41_44 := Xnb hg B41; have NB44_41 := Xns NB41_44; replace B41 := Xbb B41 hb; have NB42_44 := Xnb hg B42; have NB44_42 := Xns NB42_44; replace B42 := Xbb B42 hb; have NB43_44 := Xnb hg B43; have NB44_43 := Xns NB43_44; replace B43 := Xbb B43 hb; clear hb hg; have hnb12 := NB41_0.out; have hnc12 := NB0_41.out; have hnb13 := NB41_42.out; have hnc13 := NB42_41.out; have hnb14 := NB41_43.out; have hnc14 := NB43_41.out; have hnb15 := NB41_44.out; have hnc15 := NB44_41.out; have Z16_0 := (blk_cell B41.out 0).trans XW.i0; have F16_0 := blk_frozen B41.out 0; have hnb17 := NB44_0.out; have hnc17 := NB0_44.out; have hnb18 := NB44_42.out; have hnc18 := NB42_44.out; have hnb19 := NB44_43.out; have hnc19 := NB43_44.out; obtain ⟨Z20_0, Z20_1, Z20_2⟩ := Xc3 B44; obtain ⟨F20_0, F20_1, F20_2⟩ := Xf3 B44) | ((with_reducible refine gate_callee (f := 72) rfl ?_); refine Xgo 13 Tryz.func72 #[.pointer (some ⟨g0_, 0, none⟩), .int .i64 a3_1] ?_; (with_reducible refine (impl_Doc_path.calls k g0_ a0_0 a0_1 A0_2 c0_2 l0_2 a3_1 t37 _ ?s1 ?s2 ?s3 A5.out).mono ?_); (case s1 => exact B0.out); (case s2 => exact Xc HR0_2); (case s3 => exact HC0_2.out); rintro e w21 ⟨v664, rfl, ho0, hb⟩; refine ⟨_, rfl, ?_⟩; have HO45 := Am (Kd.R_lower ho0 (below_size Xi)); replace B0 := Xbb B0 hb; replace B41 := Xbb B41 hb; replace B42 := Xbb B42 hb; replace B43 := Xbb B43 hb; replace B44 := Xbb B44 hb; replace HB := Xhb hb; clear hb; (try clear ho0)) | ((with_reducible refine gate_dst (N := 9) rfl ?_); refine Xbox 9 #[.slice none 0 0] 30 ?_; intro gb46 hg w22 hbox hb; replace HO45 := Am (Kd.R_below (Xq HO45) hb); have B46 := Am (hbox); have GE46 := Xge hg Xi; replace HB := Xhb hb; have NB0_46 := Xnb hg B0; have NB46_0 := Xns NB0_46; replace B0 := Xbb B0 hb; have NB41_46 := Xnb hg B41; have NB46_41 := Xns NB41_46; replace B41 := Xbb B41 hb; have NB42_46 := Xnb hg B42; have NB46_42 := Xns NB42_46; replace B42 := Xbb B42 hb; have NB43_46 := Xnb hg B43; have NB46_43 := Xns NB43_46; replace B43 := Xbb B43 hb; have NB44_46 := Xnb hg B44; have NB46_44 := Xns NB44_46; replace B44 := Xbb B44 hb; clear hb hbox hg; obtain ⟨Ao23, co23, eo23⟩ := Kd.R_slice HO45.out; subst eo23; have hnb24 := NB46_0.out; have hnc24 := NB0_46.out; have hnb25 := NB46_41.out; have hnc25 := NB41_46.out; have hnb26 := NB46_42.out; have hnc26 := NB42_46.out; have hnb27 := NB46_43.out; have hnc27 := NB43_46.out; have hnb28 := NB46_44.out; have hnc28 := NB44_46.out; have Z29_0 := (blk_cell B46.out 0).trans XW.i0; have F29_0 := blk_frozen B46.out 0; have Z30_0 := (blk_cell B41.out 0).trans XW.i0; have F30_0 := blk_frozen B41.out 0; have hnb31 := NB43_0.out; have hnc31 := NB0_43.out; have hnb32 := NB43_42.out; have hnc32 := NB42_43.out; obtain ⟨Z33_0, Z33_1, Z33_2⟩ := Xc3 B43; obtain ⟨F33_0, F33_1, F33_2⟩ := Xf3 B43) | ((with_reducible refine gate_callee (f := 72) rfl ?_); refine Xgo 17 Tryz.func72 #[.pointer (some ⟨g0_, 0, none⟩), .int .i64 a2_1] ?_; (with_reducible refine (impl_Doc_path.calls k g0_ a0_0 a0_1 A0_2 c0_2 l0_2 a2_1 t38 _ ?s1 ?s2 ?s3 A6.out).mono ?_); (case s1 => exact (by refine Xu ?_; refine blk_far ?_ NB0_46.out _; refine Xu ?_; exact B0.out)); (case s2 => exact Xc HR0_2); (case s3 => exact HC0_2.out); rintro e w34 ⟨v668, rfl, ho0, hb⟩; refine ⟨_, rfl, ?_⟩; have HO47 := Am (Kd.R_lower (Kd.R_new' ho0 (Kd.R_lt (by (with_reducible repeat (first | apply Kd.R_alloc | apply Kd.R_drewN | apply Kd.R_drew)); exact (Kd.R_mono (Kd.R_far (p := ⟨gb46, 0, none⟩) (Kd.R_types HO45.out B46.out (by decide)) (fun _ hk => hk.2) (.slice Ao23 t37.length co23)) (fun _ h_ => h_.1))))) (below_size Xi)); replace HO45 := Am (Kd.R_elder' (by (with_reducible repeat (first | apply Kd.R_alloc | apply Kd.R_drewN | apply Kd.R_drew)); exact (Kd.R_mono (Kd.R_far (p := ⟨gb46, 0, none⟩) (Kd.R_types HO45.out B46.out (by decide)) (fun _ hk => hk.2) (.slice Ao23 t37.length co23)) (fun _ h_ => h_.1))) (Kd.R_base ho0) hb); replace B0 := Am (blk_below (g := g0_) (o := .cells #[.int .i64 a0_0, .int .i64 a0_1, .slice A0_2 l0_2.length c0_2] 35 (0, 0)) (by refine Xu ?_; refine blk_far ?_ NB0_46.out _; refine Xu ?_; exact B0.out) hb); replace B41 := Am (blk_below (g := gb41) (o := .cells #[.pointer (some ⟨g0_, 0, none⟩)] 115 (0, 0)) (by refine Xu ?_; refine blk_far ?_ NB41_46.out _; refine Xu ?_; exact B41.out) hb); replace B42 := Am (blk_below (g := gb42) (o := .cells #[.slice A1 l1.length c1] 37 (0, 0)) (by refine Xu ?_; refine blk_far ?_ NB42_46.out _; refine Xu ?_; exact B42.out) hb); replace B43 := Am (blk_below (g := gb43) (o := .cells #[.int .i64 a2_0, .int .i64 a2_1, .int .i64 a2_2] 39 (0, 0)) (by refine Xu ?_; refine blk_far ?_ NB43_46.out _; refine Xu ?_; exact B43.out) hb); replace B44 := Am (blk_below (g := gb44) (o := .cells #[.int .i64 a3_0, .int .i64 a3_1, .int .i64 a3_2] 39 (0, 0)) (by refine Xu ?_; refine blk_far ?_ NB44_46.out _; refine Xu ?_; exact B44.out) hb); replace B46 := Am (blk_below (g := gb46) (o := .cells #[.slice Ao23 t37.length co23] 30 (0, 0)) (by refine Xu ?_; refine blk_put (cs := #[.slice none 0 0]) ?_ 0 _ rfl; refine Xu ?_; exact B46.out) hb); replace HB := Xhb hb; clear hb; (try clear ho0); obtain ⟨Ao35, co35, eo35⟩ := Kd.R_slice HO47.out; subst eo35) | ((with_reducible refine gate_callee (f := 96) rfl ?_); refine Xgo 19 Tryz.func96 #[.slice Ao35 t38.length co35, .func (.func 150) #[] #[.pointer (some ⟨gb46, 0, none⟩), .pointer (some ⟨gb41, 0, none⟩), .pointer (some ⟨gb42, 0, none⟩), .pointer (some ⟨gb43, 0, none⟩), .pointer (some ⟨gb44, 0, none⟩)]] ?_; (with_reducible refine (slices_ContainsFunc_int_int_at_impl_Doc_rival_1.calls k _ _ t38 gb46 gb41 g0_ gb42 gb43 gb44 Ao23 co23 t37 a0_0 a0_1 A0_2 c0_2 l0_2 A1 c1 l1 a2_0 a2_1 a2_2 a3_0 a3_1 a3_2 t40 _ ?s1 ?s2 ?s3 ?s4 ?s5 ?s6 ?s7 ?s8 ?s9 ?s10 ?s11 ?s12 ?s13 ?s14 A7.out).mono ?_); (case s1 => exact Xcd (Kd.R_reads' HO47.out).2.2); (case s2 => exact (Kd.R_reads' HO47.out).2.1); (case s3 => exact B46.out); (case s4 => exact B0.out); (case s5 => exact B41.out); (case s6 => exact B42.out); (case s7 => exact B43.out); (case s8 => exact B44.out); (case s9 => exact Xcd (Kd.R_reads' HO45.out).2.2); (case s10 => exact (Kd.R_reads' HO45.out).2.1); (case s11 => exact Xc HR0_2); (case s12 => exact HC0_2.out); (case s13 => exact Xc HR1); (case s14 => exact HC1.out); rintro e w36 ⟨rfl, hb⟩; refine ⟨_, rfl, ?_⟩; replace HO45 := Am (Kd.R_below (Xq HO45) hb); replace HO47 := Am (Kd.R_below (Xq HO47) hb); replace B0 := Xbb B0 hb; replace B41 := Xbb B41 hb; replace B42 := Xbb B42 hb; replace B43 := Xbb B43 hb; replace B44 := Xbb B44 hb; replace B46 := Xbb B46 hb; replace HB := Xhb hb; clear hb))
 go_ret
 exact ⟨Xe, Xi⟩
def impl_Doc_blockers.l0 : Nat → List Int → List (S39) → Int → Int → Int → Int → List (S113) → List (S39) → List (S39) → Int → Int → Int → Option (List Int)
 | 0, _, _, _, _, _, _, _, _, _, _, _, _ => none
 | k + 1, x8, x30, x31, x32, x1000, x1001, x1002, x2000, x2001, x673000, x673001, x673002 => if x32 < x31 then (if 0 ≤ x32 then (if x32 < (x30.length : Int) then ((impl_Doc_rival.f k x1000 x1001 x1002 x2000 ((rd_T39 x30 x32).f0) ((rd_T39 x30 x32).f1) ((rd_T39 x30 x32).f2) x673000 x673001 x673002).bind fun t10 => (if t10 = true then (if x8.length < 17592186044416 then (impl_Doc_blockers.l0 k (x8 ++ [(rd_T39 x30 x32).f0]) x30 x31 (wrap64 (x32 + 1)) x1000 x1001 x1002 x2000 x2001 x673000 x673001 x673002) else (none)) else (impl_Doc_blockers.l0 k x8 x30 x31 (wrap64 (x32 + 1)) x1000 x1001 x1002 x2000 x2001 x673000 x673001 x673002))) else (none)) else (none)) else ((slices_Sort_int_int.f x8).bind fun t11 => ((slices_Compact_int_int.f t11).bind fun t12 => (some t12)))
def impl_Doc_blockers.f (k : Nat) (a0_0 : Int) (a0_1 : Int) (l0_2 : List (S113)) (l1_0 : List (S39)) (l1_1 : List (S39)) (a2 : Int) : Option (List Int) := if 0 ≤ a2 then (if a2 < (l1_1.length : Int) then ((impl_Doc_conflicts.f k a0_0 a0_1 l0_2 l1_0 ((rd_T39 l1_1 a2).f0) ((rd_T39 l1_1 a2).f1) ((rd_T39 l1_1 a2).f2)).bind fun t10 => (if a2 ≤ (l1_1.length : Int) then ((some (l1_1.take (a2 : Int).toNat : List (S39))).bind fun y11 => (impl_Doc_blockers.l0 k t10 y11 (y11.length : Int) 0 a0_0 a0_1 l0_2 l1_0 l1_1 ((rd_T39 l1_1 a2).f0) ((rd_T39 l1_1 a2).f1) ((rd_T39 l1_1 a2).f2))) else (none))) else (none)) else (none)
def impl_Doc_blockers.T2 : Bool × List (List Nat × List Nat) := (true, [([], []), ([], []), ([1], [1]), ([2], [2]), ([3], [3]), ([], []), ([0, 4, 5], [0, 4, 5]), ([6, 6, 0, 1, 2, 3, 4, 5, 6], [6])])
def impl_Doc_blockers.B2 : List Nat := [0, 0, 2, 6, 14, 0, 63, 127]
theorem impl_Doc_blockers.tab2 : rtab .any (opsOf Tryz.f59 2) = impl_Doc_blockers.T2 := by kernel_rfl
theorem impl_Doc_blockers.bits2 : waitsOk impl_Doc_blockers.T2.2 impl_Doc_blockers.B2 = true := by kernel_rfl
def impl_Doc_blockers.T6 : Bool × List (List Nat × List Nat) := (true, [([], []), ([], []), ([1], [1]), ([2], [2]), ([3], [3]), ([], []), ([], []), ([0, 4, 5, 6], [0, 4, 5, 6])])
def impl_Doc_blockers.B6 : List Nat := [0, 0, 2, 6, 14, 0, 0, 127]
theorem impl_Doc_blockers.tab6 : rtab .any (opsOf Tryz.f59 6) = impl_Doc_blockers.T6 := by kernel_rfl
theorem impl_Doc_blockers.bits6 : waitsOk impl_Doc_blockers.T6.2 impl_Doc_blockers.B6 = true := by kernel_rfl
theorem impl_Doc_blockers.calls (k : Nat) (g0_ : Nat) (a0_0 : Int) (a0_1 : Int) (A0_2 : Option Addr) (c0_2 : Nat) (l0_2 : List (S113)) (g1_ : Nat) (A1_0 : Option Addr) (c1_0 : Nat) (l1_0 : List (S39)) (A1_1 : Option Addr) (c1_1 : Nat) (l1_1 : List (S39)) (a2 : Int) (r : List Int) (w : World) (hg0_ : w.heap[g0_]? = some (.cells #[.int .i64 a0_0, .int .i64 a0_1, .slice A0_2 l0_2.length c0_2] 35 (0, 0))) (hr0_2 : Kd.C k113 w A0_2 l0_2.length l0_2) (hc0_2 : l0_2.length ≤ c0_2) (hg1_ : w.heap[g1_]? = some (.cells #[.slice A1_0 l1_0.length c1_0, .slice A1_1 l1_1.length c1_1] 53 (0, 0))) (hr1_0 : Kd.C k39 w A1_0 l1_0.length l1_0) (hc1_0 : l1_0.length ≤ c1_0) (hr1_1 : Kd.C k39 w A1_1 l1_1.length l1_1) (hc1_1 : l1_1.length ≤ c1_1) (h : impl_Doc_blockers.f k a0_0 a0_1 l0_2 l1_0 l1_1 a2 = some r) :
  Calls Tryz.prog 59 #[.pointer (some ⟨g0_, 0, none⟩), .pointer (some ⟨g1_, 0, none⟩), .int .i64 a2] w fun e w' => ∃ v0_ : Value, e = .returned (v0_) ∧ Kd.R (Kd.int .i64) 3 w' w.heap.size (fun _ => True) v0_ r ∧ Below w.heap.size w w' := by
 have hu39 := Tryz.underlying39
 have HR0_2 := Am hr0_2
 have HC0_2 := Am hc0_2
 clear hr0_2 hc0_2
 have HR1_0 := Am hr1_0
 have HC1_0 := Am hc1_0
 clear hr1_0 hc1_0
 have HR1_1 := Am hr1_1
 have HC1_1 := Am hc1_1
 clear hr1_1 hc1_1
 have B0 := Am hg0_
 clear hg0_
 have B1 := Am hg1_
 clear hg1_
 have HB := Am (Below.refl w.heap.size w)
 have H : (if 0 ≤ a2 then (if a2 < (l1_1.length : Int) then ((impl_Doc_conflicts.f k a0_0 a0_1 l0_2 l1_0 ((rd_T39 l1_1 a2).f0) ((rd_T39 l1_1 a2).f1) ((rd_T39 l1_1 a2).f2)).bind fun t44 => (if a2 ≤ (l1_1.length : Int) then ((some (l1_1.take (a2 : Int).toNat : List (S39))).bind fun y45 => (impl_Doc_blockers.l0 k t44 y45 (y45.length : Int) 0 a0_0 a0_1 l0_2 l1_0 l1_1 ((rd_T39 l1_1 a2).f0) ((rd_T39 l1_1 a2).f1) ((rd_T39 l1_1 a2).f2))) else (none))) else (none)) else (none)) = some r := h
 clear h
 obtain ⟨c4, H⟩ | ⟨c4, H⟩ := Xiu H
 ·have c4b0 : decide (0 ≤ a2) = true := decide_eq_true c4
  clear c4
  obtain ⟨c5b0, H⟩ := Xid H
  obtain ⟨t44, A6, H⟩ := Xbi H
  try dsimp only at H
  have c7b0 := eq_true (Xo : 0 ≤ a2)
  obtain ⟨c8, H⟩ := Xif H
  have c8b0 := eq_true c8
  have c8b1 : decide (a2 ≤ (l1_1.length : Int)) = true := decide_eq_true c8
  clear c8
  obtain ⟨y45, hy45⟩ : ∃ y_ : List (S39), y_ = (l1_1.take (a2 : Int).toNat) := ⟨_, rfl⟩
  replace H : (impl_Doc_blockers.l0 k t44 y45 (y45.length : Int) 0 a0_0 a0_1 l0_2 l1_0 l1_1 ((rd_T39 l1_1 a2).f0) ((rd_T39 l1_1 a2).f1) ((rd_T39 l1_1 a2).f2)) = some r := by first | (rw [hy45]; with_reducible exact H) | (have H2_ := (Option.bind_some _ _).symm.trans H; rw [hy45]; with_reducible exact H2_) | (have H2_ := (Option.bind_some _ _).symm.trans H; with_reducible exact H2_) | with_reducible exact H | (rw [hy45]; exact H) | exact H
  have Ny45 := Am hy45
  clear hy45
  have H' := Am H
  clear H
  obtain ⟨Z9_0, Z9_1⟩ := Xc2 B1
  obtain ⟨F9_0, F9_1⟩ := Xf2 B1
  have p46 : 0 ≤ (a2 : Int) := Xo
  have q46 : a2 < (l1_1.length : Int) := Xo
  obtain ⟨ad46, e46, hx46_0, hx46_1, hx46_2⟩ := at_T39 HR1_1.out a2 p46 q46
  cases e46
  replace p46 := eq_true p46
  replace q46 := eq_true q46
  go_enter Tryz.func59, Tryz.ntmps59
  try go_wp2_with (first | ((with_reducible refine gate_dst (N := 7) rfl ?_); refine Xbx 7 #[.int .i64 0, .int .i64 0, .int .i64 0] 39 ?_; intro gb47 hg w10 B47 GE47 hb; replace HB := Xhb hb; have NB0_47 := Xnb hg B0; have NB47_0 := Xns NB0_47; replace B0 := Xbb B0 hb; have NB1_47 := Xnb hg B1; have NB47_1 := Xns NB1_47; replace B1 := Xbb B1 hb; clear hb hg; have hnb11 := NB47_0.out; have hnc11 := NB0_47.out; have hnb12 := NB47_1.out; have hnc12 := NB1_47.out; obtain ⟨Z13_0, Z13_1, Z13_2⟩ := Xc3 B47; obtain ⟨F13_0, F13_1, F13_2⟩ := Xf3 B47) | ((with_reducible refine gate_store (t := 39) (p := 7) rfl ?_); refine store_event (t := 39) (p := 7) (v := ?vo_w14) (w1 := (((w10.setCell ⟨gb47, 0, none⟩ (.int .i64 ((rd_T39 l1_1 a2).f0))).setCell ⟨gb47, 1, none⟩ (.int .i64 ((rd_T39 l1_1 a2).f1))).setCell ⟨gb47, 2, none⟩ (.int .i64 ((rd_T39 l1_1 a2).f2)))) ?hg ?ho ?hn ?hr ?_; (case ho => rfl); (case hg => rfl); (case hn => rfl); (case hr => first | (go_simp; done) | (go_simp; rfl)); intro w14 hw; have n0_ : Aside0 (w14.heap[g0_]? = some (.cells #[.int .i64 a0_0, .int .i64 a0_1, .slice A0_2 l0_2.length c0_2] 35 (0, 0))) := ⟨(by rw [hw]; exact (by refine Xu ?_; refine blk_far ?_ NB0_47.out _; refine Xu ?_; refine blk_far ?_ NB0_47.out _; refine Xu ?_; refine blk_far ?_ NB0_47.out _; refine Xu ?_; exact B0.out))⟩; have n1_ : Aside0 (w14.heap[g1_]? = some (.cells #[.slice A1_0 l1_0.length c1_0, .slice (some ad46) l1_1.length c1_1] 53 (0, 0))) := ⟨(by rw [hw]; exact (by refine Xu ?_; refine blk_far ?_ NB1_47.out _; refine Xu ?_; refine blk_far ?_ NB1_47.out _; refine Xu ?_; refine blk_far ?_ NB1_47.out _; refine Xu ?_; exact B1.out))⟩; have n2_ : Aside0 (w14.heap[gb47]? = some (.cells #[.int .i64 ((rd_T39 l1_1 a2).f0), .int .i64 ((rd_T39 l1_1 a2).f1), .int .i64 ((rd_T39 l1_1 a2).f2)] 39 (0, 0))) := ⟨(by rw [hw]; exact (by refine Xu ?_; refine blk_put (cs := #[.int .i64 ((rd_T39 l1_1 a2).f0), .int .i64 ((rd_T39 l1_1 a2).f1), .int .i64 0]) ?_ 2 _ rfl; refine Xu ?_; refine blk_put (cs := #[.int .i64 ((rd_T39 l1_1 a2).f0), .int .i64 0, .int .i64 0]) ?_ 1 _ rfl; refine Xu ?_; refine blk_put (cs := #[.int .i64 0, .int .i64 0, .int .i64 0]) ?_ 0 _ rfl; refine Xu ?_; exact B47.out))⟩; have n3_ : Aside0 (Below w.heap.size w w14) := ⟨(by rw [hw]; exact Xi)⟩; clear hw; clear B0; clear B1; clear B47; clear HB; have B0 := n0_; have B1 := n1_; have B47 := n2_; have HB := n3_; clear n0_ n1_ n2_ n3_))
  replace B0 := Xbd B0
  replace B1 := Xbd B1
  replace B47 := Xbd B47
  replace HB := Xhd HB
  refine Sx 8 (fun w' => w'.cell? ⟨g1_, 0, none⟩ = some (.slice A1_0 l1_0.length c1_0) ∧ w'.cell? ⟨g1_, 1, none⟩ = some (.slice (some ad46) l1_1.length c1_1) ∧ w'.cell? ⟨gb47, 0, none⟩ = some (.int .i64 ((rd_T39 l1_1 a2).f0)) ∧ w'.cell? ⟨gb47, 1, none⟩ = some (.int .i64 ((rd_T39 l1_1 a2).f1)) ∧ w'.cell? ⟨gb47, 2, none⟩ = some (.int .i64 ((rd_T39 l1_1 a2).f2))) ⟨Xk B1 0, Xk B1 1, Xk B47 0, Xk B47 1, Xk B47 2⟩ (fun hHeld => ?_); refine with_tabW impl_Doc_blockers.tab2 impl_Doc_blockers.bits2 (fun HT_ HW_ => ?_)
  generalize w14.drew = w15 at B0 B1 B47 HB hHeld ⊢
  refine Pu 0 18 8 1 ?_
  refine Pu 1 19 8 3 ?_
  refine Pu 2 20 8 7 ?_
  refine Pu 3 21 8 15 ?_
  refine Ta 4 22 8 31 ?_
  refine Ta 5 23 8 63 ?_
  refine On 6 24 8 127 (fun K hK => ?_)
  refine Gs Tryz.func50 #[.pointer (some ⟨g0_, 0, none⟩), .slice A1_0 l1_0.length c1_0, .agg #[.int .i64 ((rd_T39 l1_1 a2).f0), .int .i64 ((rd_T39 l1_1 a2).f1), .int .i64 ((rd_T39 l1_1 a2).f2)]] ?_
  with_reducible refine (impl_Doc_conflicts.calls k g0_ a0_0 a0_1 A0_2 c0_2 l0_2 _ _ l1_0 ((rd_T39 l1_1 a2).f0) ((rd_T39 l1_1 a2).f1) ((rd_T39 l1_1 a2).f2) t44 _ ?s1 ?s2 ?s3 ?s4 ?s5 A6.out).mono ?_
  (case s1 => exact (Xq' B0))
  (case s2 => exact Xc HR0_2)
  (case s3 => exact HC0_2.out)
  (case s4 => exact Xc HR1_0)
  (case s5 => exact HC1_0.out)
  rintro e w16 ⟨v674, rfl, ho0, hb⟩
  refine ⟨_, rfl, ?_⟩
  have HO48 := Am (Kd.R_lower ho0 (below_size Xi))
  replace B0 := Xbb B0 hb
  replace B1 := Xbb B1 hb
  replace B47 := Xbb B47 hb
  replace HB := Xhb hb
  try clear hb
  try clear hb2
  try clear hk
  try clear hi
  try clear ho0
  refine hK.out _ _ ⟨Xk B1 0, Xk B1 1, Xk B47 0, Xk B47 1, Xk B47 2⟩ (fun hHeld => ?_)
  clear hK K
  refine Xno ?_
  refine Pu 7 8 8 255 ?_
  refine Dn ?_
  obtain ⟨Z17_0, Z17_1⟩ := Xc2 B1
  obtain ⟨F17_0, F17_1⟩ := Xf2 B1
  have q18 : (a2 : Int) ≤ ((l1_1.length : Int) : Int) := Xo
  obtain ⟨i018, hi018, _, hsz18, _⟩ := info_parts info39
  have hroom18 : l1_1.length ≤ c1_1 := HC1_1.out
  have hC18 : Kd.C k39 _ (some ad46) l1_1.length l1_1 := HR1_1.out
  have hcut18 := cut_to (P := Tryz.prog) 37 39 .i64 Tryz.underlying37 hi018 (some ad46) l1_1.length c1_1 a2 (Xo) q18 hroom18
  have hr18 := Kd.C_take (m := (a2 : Int).toNat) hC18 (by omega)
  have hy18 : y45.length = (a2 : Int).toNat := (by rw [Ny45.out, List.length_take]; omega)
  rw [← Ny45.out] at hr18
  rw [← hy18] at hcut18
  have HR49 := Am hr18
  have HC49 := Am (show y45.length ≤ c1_1 from by omega)
  clear hr18 hC18 hroom18 hi018 hsz18
  have KY18 := Am hy18
  clear hy18
  replace q18 := eq_true q18
  try go_wp2_with (fail)
  go_loopg [8, 32] k (fun kq v8 v32 w' => ∃ (x8_1 : List Int) (x32_1 : Int), v32 = .int .i64 x32_1 ∧ Aside0 (impl_Doc_blockers.l0 kq x8_1 y45 (y45.length : Int) x32_1 a0_0 a0_1 l0_2 l1_0 l1_1 ((rd_T39 l1_1 a2).f0) ((rd_T39 l1_1 a2).f1) ((rd_T39 l1_1 a2).f2) = some r) ∧ Aside0 (kq ≤ k) ∧ Aside0 (Kd.R (Kd.int .i64) 3 w' w.heap.size (fun _ => True) v8 x8_1) ∧ Aside0 (w'.heap[g0_]? = some (.cells #[.int .i64 a0_0, .int .i64 a0_1, (.slice A0_2 l0_2.length c0_2)] 35 (0, 0))) ∧ Aside0 (w'.heap[g1_]? = some (.cells #[(.slice A1_0 l1_0.length c1_0), (.slice (some ad46) l1_1.length c1_1)] 53 (0, 0))) ∧ Aside0 (w'.heap[gb47]? = some (.cells #[.int .i64 ((rd_T39 l1_1 a2).f0), .int .i64 ((rd_T39 l1_1 a2).f1), .int .i64 ((rd_T39 l1_1 a2).f2)] 39 (0, 0))) ∧ Aside0 (Below w.heap.size w w'))
  case atStart => exact ⟨(t44), (0), Xr, H', Xkr, (Xp' HO48), (Xp B0), (Xp B1), (Xp B47), ⟨Xi⟩⟩
  clear H'
  (try clear c4); (try clear c4b0); (try clear c5); (try clear c5b0); (try clear c7b0); (try clear c8); (try clear c8b0); (try clear c8b1); (try clear q18); (try clear Z13_0); (try clear Z13_1); (try clear Z13_2); (try clear Z17_0); (try clear Z17_1); (try clear Z9_0); (try clear Z9_1); (try clear F13_0); (try clear F13_1); (try clear F13_2); (try clear F17_0); (try clear F17_1); (try clear F9_0); (try clear F9_1); (try clear hx46_0); (try clear hx46_1); (try clear hx46_2); (try clear p46); (try clear q18); (try clear q46)
  obtain ⟨x8_1, x32_1, rfl, HA, HK1, O_8, B0, B1, B47, HB⟩ := hrel
  cases gk with | zero => cases HA.out | succ k1 => ?_
  have H := HA.out
  clear HA
  simp only [impl_Doc_blockers.l0] at H
  obtain ⟨c19b0, H⟩ | ⟨c19b0, H⟩ := Xit H
  ·obtain ⟨c20b0, H⟩ := Xid H
   obtain ⟨c21b0, H⟩ := Xid H
   obtain ⟨t50, A22, H⟩ := Xbi H
   try dsimp only at H
   have HC23 := Am H
   clear H
   obtain ⟨ad51, e51, p51, q51, hx51_0, hx51_1, hx51_2⟩ := at_B39 HR49 x32_1 Xa Xa HB
   obtain rfl : ad46 = ad51 := (by injection e51)
   try go_wp2_with (first | ((with_reducible refine gate_dst (N := 10) rfl ?_); refine Xbox 10 #[.int .i64 0, .int .i64 0, .int .i64 0] 39 ?_; intro gb52 hg w24 hbox hb; replace O_8 := Am (Kd.R_below (Xq O_8) hb); have B52 := Am (hbox); have GE52 := Xge hg Xi; replace HB := Xhb hb; have NB0_52 := Xnb hg B0; have NB52_0 := Xns NB0_52; replace B0 := Xbb B0 hb; have NB1_52 := Xnb hg B1; have NB52_1 := Xns NB1_52; replace B1 := Xbb B1 hb; have NB47_52 := Xnb hg B47; have NB52_47 := Xns NB47_52; replace B47 := Xbb B47 hb; clear hb hbox hg; have hnb25 := NB52_0.out; have hnc25 := NB0_52.out; have hnb26 := NB52_1.out; have hnc26 := NB1_52.out; have hnb27 := NB52_47.out; have hnc27 := NB47_52.out; obtain ⟨Z28_0, Z28_1, Z28_2⟩ := Xc3 B52; obtain ⟨F28_0, F28_1, F28_2⟩ := Xf3 B52) | ((with_reducible refine gate_store (t := 39) (p := 10) rfl ?_); refine store_event (t := 39) (p := 10) (v := ?vo_w29) (w1 := (((w24.setCell ⟨gb52, 0, none⟩ (.int .i64 ((rd_T39 y45 x32_1).f0))).setCell ⟨gb52, 1, none⟩ (.int .i64 ((rd_T39 y45 x32_1).f1))).setCell ⟨gb52, 2, none⟩ (.int .i64 ((rd_T39 y45 x32_1).f2)))) ?hg ?ho ?hn ?hr ?_; (case ho => rfl); (case hg => rfl); (case hn => rfl); (case hr => first | (go_simp; done) | (go_simp; rfl)); intro w29 hw; have n0_ : Aside0 (Kd.R (Kd.int .i64) 3 w29 w.heap.size (fun _ => True) u8 x8_1) := ⟨(by rw [hw]; exact (by (with_reducible repeat (first | apply Kd.R_alloc | apply Kd.R_drewN | apply Kd.R_drew)); exact Kd.R_mono (Kd.R_far (p := ⟨gb52, 2, none⟩) (Kd.R_far (p := ⟨gb52, 1, none⟩) (Kd.R_far (p := ⟨gb52, 0, none⟩) (Kd.R_types O_8.out B52.out (by decide)) (fun _ hk => hk.2) (.int .i64 ((rd_T39 y45 x32_1).f0))) (fun _ hk => hk.2) (.int .i64 ((rd_T39 y45 x32_1).f1))) (fun _ hk => hk.2) (.int .i64 ((rd_T39 y45 x32_1).f2))) (fun _ hk => trivial)))⟩; have n1_ : Aside0 (w29.heap[g0_]? = some (.cells #[.int .i64 a0_0, .int .i64 a0_1, .slice A0_2 l0_2.length c0_2] 35 (0, 0))) := ⟨(by rw [hw]; exact (by refine Xu ?_; refine blk_far ?_ NB0_52.out _; refine Xu ?_; refine blk_far ?_ NB0_52.out _; refine Xu ?_; refine blk_far ?_ NB0_52.out _; refine Xu ?_; exact B0.out))⟩; have n2_ : Aside0 (w29.heap[g1_]? = some (.cells #[.slice A1_0 l1_0.length c1_0, .slice (some ad46) l1_1.length c1_1] 53 (0, 0))) := ⟨(by rw [hw]; exact (by refine Xu ?_; refine blk_far ?_ NB1_52.out _; refine Xu ?_; refine blk_far ?_ NB1_52.out _; refine Xu ?_; refine blk_far ?_ NB1_52.out _; refine Xu ?_; exact B1.out))⟩; have n3_ : Aside0 (w29.heap[gb47]? = some (.cells #[.int .i64 ((rd_T39 l1_1 a2).f0), .int .i64 ((rd_T39 l1_1 a2).f1), .int .i64 ((rd_T39 l1_1 a2).f2)] 39 (0, 0))) := ⟨(by rw [hw]; exact (by refine Xu ?_; refine blk_far ?_ NB47_52.out _; refine Xu ?_; refine blk_far ?_ NB47_52.out _; refine Xu ?_; refine blk_far ?_ NB47_52.out _; refine Xu ?_; exact B47.out))⟩; have n4_ : Aside0 (w29.heap[gb52]? = some (.cells #[.int .i64 ((rd_T39 y45 x32_1).f0), .int .i64 ((rd_T39 y45 x32_1).f1), .int .i64 ((rd_T39 y45 x32_1).f2)] 39 (0, 0))) := ⟨(by rw [hw]; exact (by refine Xu ?_; refine blk_put (cs := #[.int .i64 ((rd_T39 y45 x32_1).f0), .int .i64 ((rd_T39 y45 x32_1).f1), .int .i64 0]) ?_ 2 _ rfl; refine Xu ?_; refine blk_put (cs := #[.int .i64 ((rd_T39 y45 x32_1).f0), .int .i64 0, .int .i64 0]) ?_ 1 _ rfl; refine Xu ?_; refine blk_put (cs := #[.int .i64 0, .int .i64 0, .int .i64 0]) ?_ 0 _ rfl; refine Xu ?_; exact B52.out))⟩; have n5_ : Aside0 (Below w.heap.size w w29) := ⟨(by rw [hw]; exact Xi)⟩; clear hw; clear O_8; clear B0; clear B1; clear B47; clear B52; clear HB; have O_8 := n0_; have B0 := n1_; have B1 := n2_; have B47 := n3_; have B52 := n4_; have HB := n5_; clear n0_ n1_ n2_ n3_ n4_ n5_))
   replace O_8 := Am (Kd.R_drew O_8.out)
   replace B0 := Xbd B0
   replace B1 := Xbd B1
   replace B47 := Xbd B47
   replace B52 := Xbd B52
   replace HB := Xhd HB
   refine Sx 8 (fun w' => w'.cell? ⟨g1_, 0, none⟩ = some (.slice A1_0 l1_0.length c1_0) ∧ w'.cell? ⟨g1_, 1, none⟩ = some (.slice (some ad46) l1_1.length c1_1) ∧ w'.cell? ⟨gb52, 0, none⟩ = some (.int .i64 ((rd_T39 y45 x32_1).f0)) ∧ w'.cell? ⟨gb52, 1, none⟩ = some (.int .i64 ((rd_T39 y45 x32_1).f1)) ∧ w'.cell? ⟨gb52, 2, none⟩ = some (.int .i64 ((rd_T39 y45 x32_1).f2)) ∧ w'.cell? ⟨gb47, 0, none⟩ = some (.int .i64 ((rd_T39 l1_1 a2).f0)) ∧ w'.cell? ⟨gb47, 1, none⟩ = some (.int .i64 ((rd_T39 l1_1 a2).f1)) ∧ w'.cell? ⟨gb47, 2, none⟩ = some (.int .i64 ((rd_T39 l1_1 a2).f2))) ⟨Xk B1 0, Xk B1 1, Xk B52 0, Xk B52 1, Xk B52 2, Xk B47 0, Xk B47 1, Xk B47 2⟩ (fun hHeld => ?_); refine with_tabW impl_Doc_blockers.tab6 impl_Doc_blockers.bits6 (fun HT_ HW_ => ?_)
   generalize w29.drew = w30 at O_8 B0 B1 B47 B52 HB hHeld ⊢
   refine Pu 0 36 8 1 ?_
   refine Pu 1 37 8 3 ?_
   refine Pu 2 38 8 7 ?_
   refine Pu 3 39 8 15 ?_
   refine Ta 4 40 8 31 ?_
   refine Ta 5 41 8 63 ?_
   refine Ta 6 42 8 127 ?_
   refine On 7 43 8 255 (fun K hK => ?_)
   refine Gs Tryz.func110 #[.pointer (some ⟨g0_, 0, none⟩), .slice A1_0 l1_0.length c1_0, .agg #[.int .i64 ((rd_T39 y45 x32_1).f0), .int .i64 ((rd_T39 y45 x32_1).f1), .int .i64 ((rd_T39 y45 x32_1).f2)], .agg #[.int .i64 ((rd_T39 l1_1 a2).f0), .int .i64 ((rd_T39 l1_1 a2).f1), .int .i64 ((rd_T39 l1_1 a2).f2)]] ?_
   with_reducible refine (impl_Doc_rival.calls k1 g0_ a0_0 a0_1 A0_2 c0_2 l0_2 _ _ l1_0 ((rd_T39 y45 x32_1).f0) ((rd_T39 y45 x32_1).f1) ((rd_T39 y45 x32_1).f2) ((rd_T39 l1_1 a2).f0) ((rd_T39 l1_1 a2).f1) ((rd_T39 l1_1 a2).f2) t50 _ ?s1 ?s2 ?s3 ?s4 ?s5 A22.out).mono ?_
   (case s1 => exact (Xq' B0))
   (case s2 => exact Xc HR0_2)
   (case s3 => exact HC0_2.out)
   (case s4 => exact Xc HR1_0)
   (case s5 => exact HC1_0.out)
   rintro e w31 ⟨rfl, hb⟩
   refine ⟨_, rfl, ?_⟩
   replace O_8 := Am (Kd.R_below (Xq O_8) hb)
   replace B0 := Xbb B0 hb
   replace B1 := Xbb B1 hb
   replace B47 := Xbb B47 hb
   replace B52 := Xbb B52 hb
   replace HB := Xhb hb
   try clear hb
   try clear hb2
   try clear hk
   try clear hi
   refine hK.out _ _ ⟨Xk B1 0, Xk B1 1, Xk B52 0, Xk B52 1, Xk B52 2, Xk B47 0, Xk B47 1, Xk B47 2⟩ (fun hHeld => ?_)
   clear hK K
   refine Xno ?_
   refine Dn ?_
   go_upto_if 43 with (fail)
   have H := HC23.out
   clear HC23
   by_cases c32 : t50 = true
   ·subst c32
    try rw [if_pos rfl] at H
    obtain ⟨c33, H⟩ := Xif H
    have LMc33 := Am c33
    clear c33
    obtain ⟨y53, hy53⟩ : ∃ y_ : List Int, y_ = (x8_1 ++ [(rd_T39 y45 x32_1).f0]) := ⟨_, rfl⟩
    replace H : (impl_Doc_blockers.l0 k1 y53 y45 (y45.length : Int) (wrap64 (x32_1 + 1)) a0_0 a0_1 l0_2 l1_0 l1_1 ((rd_T39 l1_1 a2).f0) ((rd_T39 l1_1 a2).f1) ((rd_T39 l1_1 a2).f2)) = some r := by first | (rw [hy53]; with_reducible exact H) | (have H2_ := (Option.bind_some _ _).symm.trans H; rw [hy53]; with_reducible exact H2_) | (have H2_ := (Option.bind_some _ _).symm.trans H; with_reducible exact H2_) | with_reducible exact H | (rw [hy53]; exact H) | exact H
    have Ny53 := Am hy53
    clear hy53
    have H' := Am H
    clear H
    have hnb34 := NB52_0.out
    have hnc34 := NB0_52.out
    have hnb35 := NB52_1.out
    have hnc35 := NB1_52.out
    have hnb36 := NB52_47.out
    have hnc36 := NB47_52.out
    obtain ⟨Z37_0, Z37_1, Z37_2⟩ := Xc3 B52
    obtain ⟨F37_0, F37_1, F37_2⟩ := Xf3 B52
    go_wp2_with (first | ((with_reducible refine gate_builtin (b := .append) (xs := #[.tmp 44, .tmp 47]) rfl ?_); at_builtin; refine Kd.R_append (Kd.int .i64) (w0 := w) w.heap.size rfl (.tmp 44) (.tmp 47) 30 3 (.int .i64 0) 8 rfl Tryz.underlying30 info3 rfl (by decide) (by omega) u8 x8_1 ((rd_T39 y45 x32_1).f0) [.int .i64 ((rd_T39 y45 x32_1).f0)] (fun _ => True) (fun _ => False) rfl rfl ?aP (fun _ hk => hk.elim) ?aF ?aO ?aB ?aS ?aL ?_; (case aP => exact rfl); (case aB => exact Xi); (case aF => exact (fun _ _ => trivial)); (case aO => exact (Xq O_8)); (case aS => exact (below_size Xi)); (case aL => have := LMc33.out; omega); intro v684 w38 ho hb hg hat; rw [← Ny53.out] at ho; replace B0 := Am (blk_grown (g := g0_) (o := .cells #[.int .i64 a0_0, .int .i64 a0_1, .slice A0_2 l0_2.length c0_2] 35 (0, 0)) (Xq' B0) hg (Kd.R_ne O_8.out B0.out (by decide))); replace B1 := Am (blk_grown (g := g1_) (o := .cells #[.slice A1_0 l1_0.length c1_0, .slice (some ad46) l1_1.length c1_1] 53 (0, 0)) (Xq' B1) hg (Kd.R_ne O_8.out B1.out (by decide))); replace B47 := Am (blk_grown (g := gb47) (o := .cells #[.int .i64 ((rd_T39 l1_1 a2).f0), .int .i64 ((rd_T39 l1_1 a2).f1), .int .i64 ((rd_T39 l1_1 a2).f2)] 39 (0, 0)) (Xq' B47) hg (Kd.R_ne O_8.out B47.out (by decide))); replace B52 := Am (blk_grown (g := gb52) (o := .cells #[.int .i64 ((rd_T39 y45 x32_1).f0), .int .i64 ((rd_T39 y45 x32_1).f1), .int .i64 ((rd_T39 y45 x32_1).f2)] 39 (0, 0)) (Xq' B52) hg (Kd.R_ne O_8.out B52.out (by decide))); replace HB := Am (hb); have HO54 := Am (ho); clear O_8; clear ho hb hg hat))
    go_roundg k1
    case measure => have := HK1.out; omega
    case rel => exact ⟨(y53), (wrap64 (x32_1 + 1)), Xr, H', Xk1, (Xp' HO54), (Xp B0), (Xp B1), (Xp B47), ⟨Xi⟩⟩
   replace c32 := Xbf c32
   subst c32
   try rw [if_neg Xft] at H
   have H' := Am H
   clear H
   go_wp2
   go_roundg k1
   case measure => have := HK1.out; omega
   case rel => exact ⟨(x8_1), (wrap64 (x32_1 + 1)), Xr, H', Xk1, (Xp' O_8), (Xp B0), (Xp B1), (Xp B47), ⟨Xi⟩⟩
  obtain ⟨t55, A39, H⟩ := Xbi H
  try dsimp only at H
  obtain ⟨t56, A40, H⟩ := Xbi H
  try dsimp only at H
  obtain rfl := Xsi H
  obtain ⟨Ao41, co41, eo41⟩ := Kd.R_slice O_8.out
  subst eo41
  go_wp2_with (first | ((with_reducible refine gate_callee (f := 111) rfl ?_); refine Xgo 51 Tryz.func111 #[.slice Ao41 x8_1.length co41] ?_; (with_reducible refine (slices_Sort_int_int.calls (fun k_ => some k_ = (.slice Ao41 x8_1.length co41 : Value).ownBlock) (.slice Ao41 x8_1.length co41) x8_1 t55 w _ ?s1 ?s2 A39.out).mono ?_); (case s1 => exact Xi); (case s2 => exact Kd.R_tight rfl O_8.out); rintro e w42 ⟨rfl, hy0, hb, hkp⟩; refine ⟨_, rfl, ?_⟩; replace B0 := Am (blk_kept (Xq' B0) hkp (fun hs_ => (fun e_ => (Kd.R_ne O_8.out B0.out (by decide)) e_) hs_)); replace B1 := Am (blk_kept (Xq' B1) hkp (fun hs_ => (fun e_ => (Kd.R_ne O_8.out B1.out (by decide)) e_) hs_)); replace B47 := Am (blk_kept (Xq' B47) hkp (fun hs_ => (fun e_ => (Kd.R_ne O_8.out B47.out (by decide)) e_) hs_)); replace O_8 := Am (Kd.R_reok rfl hy0 (fun k_ e_ => O_8.out.1 k_ e_)); replace HB := Am (hb); (try clear hb); (try clear hkp); (try clear hy0)) | ((with_reducible refine gate_callee (f := 112) rfl ?_); refine Xgo 53 Tryz.func112 #[.slice Ao41 x8_1.length co41] ?_; (with_reducible refine (slices_Compact_int_int.calls (fun k_ => some k_ = (.slice Ao41 x8_1.length co41 : Value).ownBlock) (.slice Ao41 x8_1.length co41) t55 t56 w _ ?s1 ?s2 A40.out).mono ?_); (case s1 => exact Xi); (case s2 => exact Kd.R_tight rfl O_8.out); rintro e w43 ⟨v688, rfl, ho0, hb, hkp⟩; refine ⟨_, rfl, ?_⟩; replace B0 := Am (blk_kept (Xq' B0) hkp (fun hs_ => (fun e_ => (Kd.R_ne O_8.out B0.out (by decide)) e_) hs_)); replace B1 := Am (blk_kept (Xq' B1) hkp (fun hs_ => (fun e_ => (Kd.R_ne O_8.out B1.out (by decide)) e_) hs_)); replace B47 := Am (blk_kept (Xq' B47) hkp (fun hs_ => (fun e_ => (Kd.R_ne O_8.out B47.out (by decide)) e_) hs_)); have HO57 := Am (Kd.R_mono (ok' := fun k_ => True) ho0 (fun k_ hk_ => trivial)); replace HB := Am (hb); clear O_8; (try clear hb); (try clear hkp); (try clear ho0)))
  go_ret
  exact ⟨_, Xe, Xq HO57, Xi⟩
 exact absurd H (by simp)
mutual
def impl_Doc_reached.l0 : Nat → List Int → List Int → Int → Int → Int → List (S113) → List (S39) → List (S39) → Option (List Int)
 | 0, _, _, _, _, _, _, _, _ => none
 | k + 1, x7, x8, x9, x1000, x1001, x1002, x2000, x2001 => if x9 < (x8.length : Int) then (if 0 ≤ x9 then ((impl_Table_waiting.f k x2000 x2001 (rd x8 x9)).bind fun t10 => (if t10 < 0 then (impl_Doc_reached.l0 k x7 x8 (wrap64 (x9 + 1)) x1000 x1001 x1002 x2000 x2001) else ((impl_Doc_blockers.f k x1000 x1001 x1002 x2000 x2001 t10).bind fun t11 => (impl_Doc_reached.l1 k x7 x8 x9 t11 (t11.length : Int) 0 x1000 x1001 x1002 x2000 x2001)))) else (none)) else ((slices_Sort_int_int.f x7).bind fun t12 => (some t12))
def impl_Doc_reached.l1 : Nat → List Int → List Int → Int → List Int → Int → Int → Int → Int → List (S113) → List (S39) → List (S39) → Option (List Int)
 | 0, _, _, _, _, _, _, _, _, _, _, _ => none
 | k + 1, x7, x8, x9, x32, x33, x34, x1000, x1001, x1002, x2000, x2001 => if x34 < x33 then (if 0 ≤ x34 then (if x34 < (x32.length : Int) then ((slices_Contains_int_int.f k x7 (rd x32 x34)).bind fun t10 => (if t10 = true then (impl_Doc_reached.l1 k x7 x8 x9 x32 x33 (wrap64 (x34 + 1)) x1000 x1001 x1002 x2000 x2001) else (if x7.length < 17592186044416 then (if x8.length < 17592186044416 then (impl_Doc_reached.l1 k (x7 ++ [rd x32 x34]) (x8 ++ [rd x32 x34]) x9 x32 x33 (wrap64 (x34 + 1)) x1000 x1001 x1002 x2000 x2001) else (none)) else (none)))) else (none)) else (none)) else (impl_Doc_reached.l0 k x7 x8 (wrap64 (x9 + 1)) x1000 x1001 x1002 x2000 x2001)
end
def impl_Doc_reached.f (k : Nat) (a0_0 : Int) (a0_1 : Int) (l0_2 : List (S113)) (l1_0 : List (S39)) (l1_1 : List (S39)) (a2 : Int) : Option (List Int) := impl_Doc_reached.l0 k ([] : List Int) (([a2] : List Int)) 0 a0_0 a0_1 l0_2 l1_0 l1_1
theorem impl_Doc_reached.calls (k : Nat) (g0_ : Nat) (a0_0 : Int) (a0_1 : Int) (A0_2 : Option Addr) (c0_2 : Nat) (l0_2 : List (S113)) (g1_ : Nat) (A1_0 : Option Addr) (c1_0 : Nat) (l1_0 : List (S39)) (A1_1 : Option Addr) (c1_1 : Nat) (l1_1 : List (S39)) (a2 : Int) (r : List Int) (w : World) (hg0_ : w.heap[g0_]? = some (.cells #[.int .i64 a0_0, .int .i64 a0_1, .slice A0_2 l0_2.length c0_2] 35 (0, 0))) (hr0_2 : Kd.C k113 w A0_2 l0_2.length l0_2) (hc0_2 : l0_2.length ≤ c0_2) (hg1_ : w.heap[g1_]? = some (.cells #[.slice A1_0 l1_0.length c1_0, .slice A1_1 l1_1.length c1_1] 53 (0, 0))) (hr1_0 : Kd.C k39 w A1_0 l1_0.length l1_0) (hc1_0 : l1_0.length ≤ c1_0) (hr1_1 : Kd.C k39 w A1_1 l1_1.length l1_1) (hc1_1 : l1_1.length ≤ c1_1) (h : impl_Doc_reached.f k a0_0 a0_1 l0_2 l1_0 l1_1 a2 = some r) :
  Calls Tryz.prog 114 #[.pointer (some ⟨g0_, 0, none⟩), .pointer (some ⟨g1_, 0, none⟩), .int .i64 a2] w fun e w' => ∃ v0_ : Value, e = .returned (v0_) ∧ Kd.R (Kd.int .i64) 3 w' w.heap.size (fun _ => True) v0_ r ∧ Below w.heap.size w w' := by
 have HR0_2 := Am hr0_2
 have HC0_2 := Am hc0_2
 clear hr0_2 hc0_2
 have HR1_0 := Am hr1_0
 have HC1_0 := Am hc1_0
 clear hr1_0 hc1_0
 have HR1_1 := Am hr1_1
 have HC1_1 := Am hc1_1
 clear hr1_1 hc1_1
 have B0 := Am hg0_
 clear hg0_
 have B1 := Am hg1_
 clear hg1_
 have HB := Am (Below.refl w.heap.size w)
 have H : (impl_Doc_reached.l0 k ([] : List Int) (([a2] : List Int)) 0 a0_0 a0_1 l0_2 l1_0 l1_1) = some r := h
 clear h
 obtain ⟨y31, hy31⟩ : ∃ y_ : List Int, y_ = (([a2] : List Int)) := ⟨_, rfl⟩
 replace H : (impl_Doc_reached.l0 k ([] : List Int) y31 0 a0_0 a0_1 l0_2 l1_0 l1_1) = some r := by first | (rw [hy31]; with_reducible exact H) | (have H2_ := (Option.bind_some _ _).symm.trans H; rw [hy31]; with_reducible exact H2_) | (have H2_ := (Option.bind_some _ _).symm.trans H; with_reducible exact H2_) | with_reducible exact H | (rw [hy31]; exact H) | exact H
 have Ny31 := Am hy31
 clear hy31
 have H' := Am H
 clear H
 go_enter Tryz.func114, Tryz.ntmps114
 go_wp2_with (first | ((with_reducible refine gate_dst (N := 14) rfl ?_); refine Kd.R_lit (Kd.int .i64) _ 3 ?hg (N := 14) ?hd (xs := ([a2] : List Int)) (inner := [.int .i64 a2]) (ok := fun _ => True) (okp := fun _ => True) ?hr ?hp (fun _ hk => hk) trivial (Below.refl _ _) (Nat.le_refl _) (by simp) ?_; (case hd => rfl); (case hg => rfl); (case hr => first | (go_simp; done) | (go_simp; rfl)); (case hp => exact (Reps.one (show Kd.M (Kd.int .i64) _ _ _ a2 [.int .i64 a2] from rfl) (Reps.none _ _))); intro v691 w4 ho5 hb hg_ hnew_; clear hg_ hnew_; (first | rw [← Ny31.out] at ho5 | (simp only [Int.reduceToNat] at ho5; rw [← Ny31.out] at ho5)); have HO33 := Am (Kd.R_lower ho5 (below_size Xi)); replace B0 := Xbb B0 hb; replace B1 := Xbb B1 hb; replace HB := Xhb hb; clear hb ho5))
 go_loopg [7, 8, 9] k (fun kq v7 v8 v9 w' => ∃ (x7_1 : List Int) (x8_1 : List Int) (x9_1 : Int), v9 = .int .i64 x9_1 ∧ Aside0 (impl_Doc_reached.l0 kq x7_1 x8_1 x9_1 a0_0 a0_1 l0_2 l1_0 l1_1 = some r) ∧ Aside0 (kq ≤ k) ∧ Aside0 (Kd.R (Kd.int .i64) 3 w' w.heap.size (fun k_ => some k_ ≠ (v8 : Value).ownBlock) v7 x7_1) ∧ Aside0 (Kd.R (Kd.int .i64) 3 w' w.heap.size (fun k_ => some k_ ≠ (v7 : Value).ownBlock) v8 x8_1) ∧ Aside0 (w'.heap[g0_]? = some (.cells #[.int .i64 a0_0, .int .i64 a0_1, (.slice A0_2 l0_2.length c0_2)] 35 (0, 0))) ∧ Aside0 (w'.heap[g1_]? = some (.cells #[(.slice A1_0 l1_0.length c1_0), (.slice A1_1 l1_1.length c1_1)] 53 (0, 0))) ∧ Aside0 (Below w.heap.size w w'))
 case atStart => exact ⟨(([] : List Int)), (y31), (0), Xr, H', Xkr, ⟨by first | exact Kd.R_nil _ _ _ _ _ | exact Kd.N_nil _ _ _ _ _ | exact Kd.V_nil _ _ _ _ _ | exact Kd.Q_nil _ _ _ _ _ | exact Kd.S_nil _ _ _ _ _⟩, ⟨by (with_reducible repeat (first | apply Kd.R_alloc | apply Kd.R_drewN | apply Kd.R_drew)); exact Kd.R_mono HO33.out (fun _ hk => (by simp [Value.ownBlock]))⟩, (Xp B0), (Xp B1), ⟨Xi⟩⟩
 clear H'
 obtain ⟨x7_1, x8_1, x9_1, rfl, HA, HK1, O_7, O_8, B0, B1, HB⟩ := hrel
 cases gk with | zero => cases HA.out | succ k1 => ?_
 have H := HA.out
 clear HA
 simp only [impl_Doc_reached.l0] at H
 obtain ⟨c6b0, H⟩ | ⟨c6b0, H⟩ := Xit H
 ·obtain ⟨c7b0, H⟩ := Xid H
  obtain ⟨t35, A8, H⟩ := Xbi H
  try dsimp only at H
  have HC9 := Am H
  clear H
  obtain ⟨Ao10, co10, eo10⟩ := Kd.R_slice O_8.out
  subst eo10
  have p36 : 0 ≤ (x9_1 : Int) := Xo
  have q36 : x9_1 < (x8_1.length : Int) := Xo
  obtain ⟨ad36, e36, hx36_0⟩ := Kd.at_int (Kd.R_reads' O_8.out).2.2 x9_1 p36 q36
  cases e36
  replace p36 := eq_true p36
  replace q36 := eq_true q36
  go_upto_if 28 with ((with_reducible refine gate_callee (f := 58) rfl ?_); refine Xgo 26 Tryz.func58 #[.pointer (some ⟨g1_, 0, none⟩), .int .i64 (rd x8_1 x9_1)] ?_; (with_reducible refine (impl_Table_waiting.calls k1 g1_ A1_0 c1_0 l1_0 A1_1 c1_1 l1_1 (rd x8_1 x9_1) t35 _ ?s1 ?s2 ?s3 ?s4 ?s5 A8.out).mono ?_); (case s1 => exact (Xq' B1)); (case s2 => exact Xc HR1_0); (case s3 => exact HC1_0.out); (case s4 => exact Xc HR1_1); (case s5 => exact HC1_1.out); rintro e w11 ⟨rfl, hb⟩; refine ⟨_, rfl, ?_⟩; replace O_7 := Am (Kd.R_below (Xq O_7) hb); replace O_8 := Am (Kd.R_below (Xq O_8) hb); replace B0 := Xbb B0 hb; replace B1 := Xbb B1 hb; replace HB := Xhb hb; clear hb)
  have H := HC9.out
  clear HC9
  obtain ⟨c12b0, H⟩ | ⟨c12b0, H⟩ := Xit H
  ·(first | rw [c12b0] | (simp only [i64_w, i32_w]; rw [c12b0]) | skip)
   have H' := Am H
   clear H
   go_wp2
   go_roundg k1
   case measure => have := HK1.out; omega
   case rel => exact ⟨(x7_1), (x8_1), (wrap64 (x9_1 + 1)), Xr, H', Xk1, (Xp' O_7), (Xp' O_8), (Xp B0), (Xp B1), ⟨Xi⟩⟩
  (first | rw [c12b0] | (simp only [i64_w, i32_w]; rw [c12b0]) | skip)
  obtain ⟨t37, A13, H⟩ := Xbi H
  try dsimp only at H
  have H' := Am H
  clear H
  go_wp2_with (first | ((with_reducible refine gate_callee (f := 59) rfl ?_); refine Xgo 32 Tryz.func59 #[.pointer (some ⟨g0_, 0, none⟩), .pointer (some ⟨g1_, 0, none⟩), .int .i64 t35] ?_; (with_reducible refine (impl_Doc_blockers.calls k1 g0_ a0_0 a0_1 A0_2 c0_2 l0_2 g1_ A1_0 c1_0 l1_0 A1_1 c1_1 l1_1 t35 t37 _ ?s1 ?s2 ?s3 ?s4 ?s5 ?s6 ?s7 ?s8 A13.out).mono ?_); (case s1 => exact (Xq' B0)); (case s2 => exact Xc HR0_2); (case s3 => exact HC0_2.out); (case s4 => exact (Xq' B1)); (case s5 => exact Xc HR1_0); (case s6 => exact HC1_0.out); (case s7 => exact Xc HR1_1); (case s8 => exact HC1_1.out); rintro e w14 ⟨v697, rfl, ho0, hb⟩; refine ⟨_, rfl, ?_⟩; have HO38 := Am (Kd.R_lower (Kd.R_new' (Kd.R_new' ho0 (Kd.R_lt (Xq O_7))) (Kd.R_lt (Xq O_8))) (below_size Xi)); replace O_7 := Am (Kd.R_elder' (Xq O_7) (Kd.R_base ho0) hb); replace O_8 := Am (Kd.R_elder' (Xq O_8) (Kd.R_base ho0) hb); replace B0 := Xbb B0 hb; replace B1 := Xbb B1 hb; replace HB := Xhb hb; clear hb; (try clear ho0); obtain ⟨Ao15, co15, eo15⟩ := Kd.R_slice HO38.out; subst eo15))
  go_loopg [7, 8, 34] k1 (fun kq v7 v8 v34 w' => ∃ (x7_2 : List Int) (x8_2 : List Int) (x34_2 : Int), v34 = .int .i64 x34_2 ∧ Aside0 (impl_Doc_reached.l1 kq x7_2 x8_2 x9_1 t37 (t37.length : Int) x34_2 a0_0 a0_1 l0_2 l1_0 l1_1 = some r) ∧ Aside0 (kq ≤ k1) ∧ Aside0 (Kd.R (Kd.int .i64) 3 w' w.heap.size (fun k_ => some k_ ≠ (v8 : Value).ownBlock ∧ some k_ ≠ ((.slice Ao15 t37.length co15) : Value).ownBlock) v7 x7_2) ∧ Aside0 (Kd.R (Kd.int .i64) 3 w' w.heap.size (fun k_ => some k_ ≠ (v7 : Value).ownBlock ∧ some k_ ≠ ((.slice Ao15 t37.length co15) : Value).ownBlock) v8 x8_2) ∧ Aside0 (Kd.R (Kd.int .i64) 3 w' w.heap.size (fun k_ => some k_ ≠ (v7 : Value).ownBlock ∧ some k_ ≠ (v8 : Value).ownBlock) (.slice Ao15 t37.length co15) t37) ∧ Aside0 (w'.heap[g0_]? = some (.cells #[.int .i64 a0_0, .int .i64 a0_1, (.slice A0_2 l0_2.length c0_2)] 35 (0, 0))) ∧ Aside0 (w'.heap[g1_]? = some (.cells #[(.slice A1_0 l1_0.length c1_0), (.slice A1_1 l1_1.length c1_1)] 53 (0, 0))) ∧ Aside0 (Below w.heap.size w w'))
  case atStart => exact ⟨(x7_1), (x8_1), (0), Xr, H', Xkr, (Xp' O_7), (Xp' O_8), ⟨by (with_reducible repeat (first | apply Kd.R_alloc | apply Kd.R_drewN | apply Kd.R_drew)); exact Kd.R_mono HO38.out (fun _ hk => ⟨hk.1.2, hk.2⟩)⟩, (Xp B0), (Xp B1), ⟨Xi⟩⟩
  clear H'
  (try clear c6); (try clear c6b0); (try clear c7); (try clear c7b0); (try clear c12); (try clear c12b0); (try clear hx36_0); (try clear p36); (try clear q36)
  obtain ⟨x7_2, x8_2, x34_2, rfl, HA, HK2, O_7, O_8, O_32, B0, B1, HB⟩ := hrel
  cases gk with | zero => cases HA.out | succ k2 => ?_
  have H := HA.out
  clear HA
  simp only [impl_Doc_reached.l1] at H
  obtain ⟨c16b0, H⟩ | ⟨c16b0, H⟩ := Xit H
  ·obtain ⟨c17b0, H⟩ := Xid H
   obtain ⟨c18b0, H⟩ := Xid H
   obtain ⟨t40, A19, H⟩ := Xbi H
   try dsimp only at H
   have HC20 := Am H
   clear H
   have p41 : 0 ≤ (x34_2 : Int) := Xo
   have q41 : x34_2 < (t37.length : Int) := Xo
   obtain ⟨ad41, e41, hx41_0⟩ := Kd.at_int (Kd.R_reads' O_32.out).2.2 x34_2 p41 q41
   cases e41
   replace p41 := eq_true p41
   replace q41 := eq_true q41
   obtain ⟨Ao21, co21, eo21⟩ := Kd.R_slice O_7.out
   subst eo21
   go_upto_if 41 with ((with_reducible refine gate_callee (f := 116) rfl ?_); refine Xgo 40 Tryz.func116 #[.slice Ao21 x7_2.length co21, .int .i64 (rd t37 x34_2)] ?_; (with_reducible refine (slices_Contains_int_int.calls k2 _ _ x7_2 (rd t37 x34_2) t40 _ ?s1 ?s2 A19.out).mono ?_); (case s1 => exact Xcd (Kd.R_reads' O_7.out).2.2); (case s2 => exact (Kd.R_reads' O_7.out).2.1); rintro e w' ⟨rfl, ⟨nd, rfl⟩⟩; refine ⟨_, rfl, ?_⟩)
   have H := HC20.out
   clear HC20
   by_cases c22 : t40 = true
   ·subst c22
    try rw [if_pos rfl] at H
    have H' := Am H
    clear H
    go_wp2
    go_roundg k2
    case measure => have := HK1.out; have := HK2.out; omega
    case rel => exact ⟨(x7_2), (x8_2), (wrap64 (x34_2 + 1)), Xr, H', ⟨by have := HK1.out; have := HK2.out; omega⟩, (Xp' O_7), (Xp' O_8), (Xp' O_32), (Xp B0), (Xp B1), ⟨Xi⟩⟩
   replace c22 := Xbf c22
   subst c22
   try rw [if_neg Xft] at H
   obtain ⟨c23, H⟩ := Xif H
   have LMc23 := Am c23
   clear c23
   obtain ⟨y42, hy42⟩ : ∃ y_ : List Int, y_ = (x7_2 ++ [rd t37 x34_2]) := ⟨_, rfl⟩
   replace H : (if x8_2.length < 17592186044416 then (impl_Doc_reached.l1 k2 y42 (x8_2 ++ [rd t37 x34_2]) x9_1 t37 (t37.length : Int) (wrap64 (x34_2 + 1)) a0_0 a0_1 l0_2 l1_0 l1_1) else (none)) = some r := by first | (rw [hy42]; with_reducible exact H) | (have H2_ := (Option.bind_some _ _).symm.trans H; rw [hy42]; with_reducible exact H2_) | (have H2_ := (Option.bind_some _ _).symm.trans H; with_reducible exact H2_) | with_reducible exact H | (rw [hy42]; exact H) | exact H
   have Ny42 := Am hy42
   clear hy42
   obtain ⟨c24, H⟩ := Xif H
   have LMc24 := Am c24
   clear c24
   obtain ⟨y43, hy43⟩ : ∃ y_ : List Int, y_ = (x8_2 ++ [rd t37 x34_2]) := ⟨_, rfl⟩
   replace H : (impl_Doc_reached.l1 k2 y42 y43 x9_1 t37 (t37.length : Int) (wrap64 (x34_2 + 1)) a0_0 a0_1 l0_2 l1_0 l1_1) = some r := by first | (rw [hy43]; with_reducible exact H) | (have H2_ := (Option.bind_some _ _).symm.trans H; rw [hy43]; with_reducible exact H2_) | (have H2_ := (Option.bind_some _ _).symm.trans H; with_reducible exact H2_) | with_reducible exact H | (rw [hy43]; exact H) | exact H
   have Ny43 := Am hy43
   clear hy43
   have H' := Am H
   clear H
   go_wp2_with (first | ((with_reducible refine gate_builtin (b := .append) (xs := #[.tmp 42, .tmp 44]) rfl ?_); at_builtin; refine Kd.R_append (Kd.int .i64) (w0 := w) w.heap.size rfl (.tmp 42) (.tmp 44) 30 3 (.int .i64 0) 8 rfl Tryz.underlying30 info3 rfl (by decide) (by omega) (.slice Ao21 x7_2.length co21) x7_2 (rd t37 x34_2) [.int .i64 (rd t37 x34_2)] (fun k_ => some k_ ≠ (u8 : Value).ownBlock ∧ some k_ ≠ (.slice (some ad41) t37.length co15 : Value).ownBlock) (fun _ => False) rfl rfl ?aP (fun _ hk => hk.elim) ?aF ?aO ?aB ?aS ?aL ?_; (case aP => exact rfl); (case aB => exact Xi); (case aF => exact (fun k_ hk => ⟨Kd.fresh' (Kd.R_lt (Xq O_8)) k_ hk, Kd.fresh' (Kd.R_lt (Xq O_32)) k_ hk⟩)); (case aO => exact (Xq O_7)); (case aS => exact (below_size Xi)); (case aL => have := LMc23.out; omega); intro v702 w25 ho hb hg hat; rw [← Ny42.out] at ho; replace O_8 := Am (Kd.R_after (ok := (fun k_ => some k_ ≠ (.slice (some ad41) t37.length co15 : Value).ownBlock)) (by (with_reducible repeat (first | apply Kd.R_alloc | apply Kd.R_drewN | apply Kd.R_drew)); exact Kd.R_mono O_8.out (fun _ hk => ⟨hk.2, hk.1⟩)) hg hat); replace O_32 := Am (Kd.R_after (ok := (fun k_ => some k_ ≠ (u8 : Value).ownBlock)) (by (with_reducible repeat (first | apply Kd.R_alloc | apply Kd.R_drewN | apply Kd.R_drew)); exact Kd.R_mono O_32.out (fun _ hk => ⟨hk.2, hk.1⟩)) hg hat); replace B0 := Am (blk_grown (g := g0_) (o := .cells #[.int .i64 a0_0, .int .i64 a0_1, .slice A0_2 l0_2.length c0_2] 35 (0, 0)) (Xq' B0) hg (Kd.R_ne O_7.out B0.out (by decide))); replace B1 := Am (blk_grown (g := g1_) (o := .cells #[.slice A1_0 l1_0.length c1_0, .slice A1_1 l1_1.length c1_1] 53 (0, 0)) (Xq' B1) hg (Kd.R_ne O_7.out B1.out (by decide))); replace HB := Am (hb); have HO44 := Am (ho); clear O_7; clear ho hb hg hat) | ((with_reducible refine gate_builtin (b := .append) (xs := #[.tmp 46, .tmp 48]) rfl ?_); at_builtin; refine Kd.R_append (Kd.int .i64) (w0 := w) w.heap.size rfl (.tmp 46) (.tmp 48) 30 3 (.int .i64 0) 8 rfl Tryz.underlying30 info3 rfl (by decide) (by omega) u8 x8_2 (rd t37 x34_2) [.int .i64 (rd t37 x34_2)] (fun k_ => some k_ ≠ (.slice (some ad41) t37.length co15 : Value).ownBlock ∧ some k_ ≠ (v702 : Value).ownBlock) (fun _ => False) rfl rfl ?aP (fun _ hk => hk.elim) ?aF ?aO ?aB ?aS ?aL ?_; (case aP => exact rfl); (case aB => exact Xi); (case aF => exact (fun k_ hk => ⟨Kd.fresh' (Kd.R_lt (Xq O_32)) k_ hk, Kd.fresh' (Kd.R_lt (Xq HO44)) k_ hk⟩)); (case aO => exact (Xq O_8)); (case aS => exact (below_size Xi)); (case aL => have := LMc24.out; omega); intro v705 w26 ho hb hg hat; rw [← Ny43.out] at ho; replace O_32 := Am (Kd.R_after (ok := (fun k_ => some k_ ≠ (v702 : Value).ownBlock)) (by (with_reducible repeat (first | apply Kd.R_alloc | apply Kd.R_drewN | apply Kd.R_drew)); exact Kd.R_mono O_32.out (fun _ hk => ⟨hk.2, hk.1⟩)) hg hat); replace B0 := Am (blk_grown (g := g0_) (o := .cells #[.int .i64 a0_0, .int .i64 a0_1, .slice A0_2 l0_2.length c0_2] 35 (0, 0)) (Xq' B0) hg (Kd.R_ne O_8.out B0.out (by decide))); replace B1 := Am (blk_grown (g := g1_) (o := .cells #[.slice A1_0 l1_0.length c1_0, .slice A1_1 l1_1.length c1_1] 53 (0, 0)) (Xq' B1) hg (Kd.R_ne O_8.out B1.out (by decide))); replace HO44 := Am (Kd.R_after (ok := (fun k_ => some k_ ≠ (.slice (some ad41) t37.length co15 : Value).ownBlock)) (by (with_reducible repeat (first | apply Kd.R_alloc | apply Kd.R_drewN | apply Kd.R_drew)); exact Kd.R_mono HO44.out (fun _ hk => ⟨hk.2, hk.1⟩)) hg hat); replace HB := Am (hb); have HO45 := Am (ho); clear O_8; clear ho hb hg hat))
   go_roundg k2
   case measure => have := HK1.out; have := HK2.out; omega
   case rel => exact ⟨(y42), (y43), (wrap64 (x34_2 + 1)), Xr, H', ⟨by have := HK1.out; have := HK2.out; omega⟩, ⟨by (with_reducible repeat (first | apply Kd.R_alloc | apply Kd.R_drewN | apply Kd.R_drew)); exact Kd.R_mono HO44.out (fun _ hk => ⟨hk.2, hk.1⟩)⟩, ⟨by (with_reducible repeat (first | apply Kd.R_alloc | apply Kd.R_drewN | apply Kd.R_drew)); exact Kd.R_mono HO45.out (fun _ hk => ⟨hk.2, hk.1⟩)⟩, (Xp' O_32), (Xp B0), (Xp B1), ⟨Xi⟩⟩
  have H' := Am H
  clear H
  go_wp2
  go_roundg k2
  case measure => have := HK1.out; have := HK2.out; omega
  case rel => exact ⟨(x7_2), (x8_2), (wrap64 (x9_1 + 1)), Xr, H', ⟨by have := HK1.out; have := HK2.out; omega⟩, ⟨by (with_reducible repeat (first | apply Kd.R_alloc | apply Kd.R_drewN | apply Kd.R_drew)); exact Kd.R_mono O_7.out (fun _ hk => hk.1)⟩, ⟨by (with_reducible repeat (first | apply Kd.R_alloc | apply Kd.R_drewN | apply Kd.R_drew)); exact Kd.R_mono O_8.out (fun _ hk => hk.1)⟩, (Xp B0), (Xp B1), ⟨Xi⟩⟩
 obtain ⟨t46, A27, H⟩ := Xbi H
 try dsimp only at H
 obtain rfl := Xsi H
 obtain ⟨Ao28, co28, eo28⟩ := Kd.R_slice O_8.out
 subst eo28
 obtain ⟨Ao29, co29, eo29⟩ := Kd.R_slice O_7.out
 subst eo29
 go_wp2_with (first | ((with_reducible refine gate_callee (f := 111) rfl ?_); refine Xgo 52 Tryz.func111 #[.slice Ao29 x7_1.length co29] ?_; (with_reducible refine (slices_Sort_int_int.calls (fun k_ => some k_ = (.slice Ao29 x7_1.length co29 : Value).ownBlock) (.slice Ao29 x7_1.length co29) x7_1 t46 w _ ?s1 ?s2 A27.out).mono ?_); (case s1 => exact Xi); (case s2 => exact Kd.R_tight rfl O_7.out); rintro e w30 ⟨rfl, hy0, hb, hkp⟩; refine ⟨_, rfl, ?_⟩; replace O_8 := Am (Kd.R_mono (ok' := fun k_ => some k_ ≠ (.slice Ao29 x7_1.length co29 : Value).ownBlock) (Kd.R_keptB (O_8.out) hkp (fun k_ hk_ hs_ => (hk_) hs_)) (fun k_ hk_ => hk_.1)); replace B0 := Am (blk_kept (Xq' B0) hkp (fun hs_ => (fun e_ => (Kd.R_ne O_7.out B0.out (by decide)) e_) hs_)); replace B1 := Am (blk_kept (Xq' B1) hkp (fun hs_ => (fun e_ => (Kd.R_ne O_7.out B1.out (by decide)) e_) hs_)); replace O_7 := Am (Kd.R_reok rfl hy0 (fun k_ e_ => O_7.out.1 k_ e_)); replace HB := Am (hb); (try clear hb); (try clear hkp); (try clear hy0)))
 go_ret
 exact ⟨_, Xe, by (with_reducible repeat (first | apply Kd.R_alloc | apply Kd.R_drewN | apply Kd.R_drew)); exact Kd.R_mono O_7.out (fun _ hk => trivial), Xi⟩
def impl_Doc_circle_1.f (k : Nat) (a0 : Int) (a1_0 : Int) (a1_1 : Int) (l1_2 : List (S113)) (l2_0 : List (S39)) (l2_1 : List (S39)) (a3_0 : Int) : Option (Bool) := (impl_Doc_reached.f k a1_0 a1_1 l1_2 l2_0 l2_1 a0).bind fun t10 => ((slices_Contains_int_int.f k t10 a3_0).bind fun t11 => (some (!t11)))
def impl_Doc_circle_1.T1 : Bool × List (List Nat × List Nat) := (true, [([], []), ([], []), ([], []), ([0, 1, 2], [0, 1, 2]), ([], []), ([3, 4, 3], [3, 4]), ([5], [5]), ([6, 5, 0, 1, 2, 3, 4, 5, 6], [6])])
def impl_Doc_circle_1.B1 : List Nat := [0, 0, 0, 7, 0, 31, 63, 127]
theorem impl_Doc_circle_1.tab1 : rtab .any (opsOf Tryz.f115 1) = impl_Doc_circle_1.T1 := by kernel_rfl
theorem impl_Doc_circle_1.bits1 : waitsOk impl_Doc_circle_1.T1.2 impl_Doc_circle_1.B1 = true := by kernel_rfl
theorem impl_Doc_circle_1.calls (k : Nat) (a0 : Int) (g1_ : Nat) (q1_ : Nat) (a1_0 : Int) (a1_1 : Int) (A1_2 : Option Addr) (c1_2 : Nat) (l1_2 : List (S113)) (g2_ : Nat) (q2_ : Nat) (A2_0 : Option Addr) (c2_0 : Nat) (l2_0 : List (S39)) (A2_1 : Option Addr) (c2_1 : Nat) (l2_1 : List (S39)) (g3_ : Nat) (a3_0 : Int) (r : Bool) (w : World) (hq1_ : w.heap[q1_]? = some (.cells #[.int .i64 a1_0, .int .i64 a1_1, .slice A1_2 l1_2.length c1_2] 35 (0, 0))) (hg1_ : w.heap[g1_]? = some (.cells #[.pointer (some ⟨q1_, 0, none⟩)] 115 (0, 0))) (hr1_2 : Kd.C k113 w A1_2 l1_2.length l1_2) (hc1_2 : l1_2.length ≤ c1_2) (hq2_ : w.heap[q2_]? = some (.cells #[.slice A2_0 l2_0.length c2_0, .slice A2_1 l2_1.length c2_1] 53 (0, 0))) (hg2_ : w.heap[g2_]? = some (.cells #[.pointer (some ⟨q2_, 0, none⟩)] 88 (0, 0))) (hr2_0 : Kd.C k39 w A2_0 l2_0.length l2_0) (hc2_0 : l2_0.length ≤ c2_0) (hr2_1 : Kd.C k39 w A2_1 l2_1.length l2_1) (hc2_1 : l2_1.length ≤ c2_1) (hg3_ : w.heap[g3_]? = some (.cells #[.int .i64 a3_0] 3 (0, 0))) (h : impl_Doc_circle_1.f k a0 a1_0 a1_1 l1_2 l2_0 l2_1 a3_0 = some r) :
  Calls Tryz.prog 115 #[.int .i64 a0, .pointer (some ⟨g1_, 0, none⟩), .pointer (some ⟨g2_, 0, none⟩), .pointer (some ⟨g3_, 0, none⟩)] w fun e w' => e = .returned (.bool r) ∧ Below w.heap.size w w' := by
 have HR1_2 := Am hr1_2
 have HC1_2 := Am hc1_2
 clear hr1_2 hc1_2
 have HR2_0 := Am hr2_0
 have HC2_0 := Am hc2_0
 clear hr2_0 hc2_0
 have HR2_1 := Am hr2_1
 have HC2_1 := Am hc2_1
 clear hr2_1 hc2_1
 have B81 := Am hq1_
 clear hq1_
 have B1 := Am hg1_
 clear hg1_
 have B82 := Am hq2_
 clear hq2_
 have B2 := Am hg2_
 clear hg2_
 have B3 := Am hg3_
 clear hg3_
 have HB := Am (Below.refl w.heap.size w)
 have H : ((impl_Doc_reached.f k a1_0 a1_1 l1_2 l2_0 l2_1 a0).bind fun t10 => ((slices_Contains_int_int.f k t10 a3_0).bind fun t11 => (some (!t11)))) = some r := h
 clear h
 obtain ⟨t10, A5, H⟩ := Xbi H
 try dsimp only at H
 obtain ⟨t11, A6, H⟩ := Xbi H
 try dsimp only at H
 obtain rfl := Xsi H
 go_enter Tryz.func115, Tryz.ntmps115
 try go_wp2_with (fail)
 replace B81 := Xbd B81
 replace B1 := Xbd B1
 replace B82 := Xbd B82
 replace B2 := Xbd B2
 replace B3 := Xbd B3
 replace HB := Xhd HB
 refine Sx 8 (fun w' => w'.cell? ⟨g1_, 0, none⟩ = some (.pointer (some ⟨q1_, 0, none⟩)) ∧ w'.cell? ⟨g2_, 0, none⟩ = some (.pointer (some ⟨q2_, 0, none⟩)) ∧ w'.cell? ⟨g3_, 0, none⟩ = some (.int .i64 a3_0)) ⟨Xk B1 0, Xk B2 0, Xk B3 0⟩ (fun hHeld => ?_); refine with_tabW impl_Doc_circle_1.tab1 impl_Doc_circle_1.bits1 (fun HT_ HW_ => ?_)
 generalize w.drew = w7 at B81 B1 B82 B2 B3 HB hHeld ⊢
 refine Pu 2 8 8 4 ?_
 refine Ta 0 6 8 5 ?_
 refine Ta 1 7 8 7 ?_
 refine Ta 4 10 8 23 ?_
 refine On 3 9 8 31 (fun K hK => ?_)
 refine Gs Tryz.func114 #[.pointer (some ⟨q1_, 0, none⟩), .pointer (some ⟨q2_, 0, none⟩), .int .i64 a0] ?_
 with_reducible refine (impl_Doc_reached.calls k q1_ a1_0 a1_1 A1_2 c1_2 l1_2 q2_ A2_0 c2_0 l2_0 A2_1 c2_1 l2_1 a0 t10 _ ?s1 ?s2 ?s3 ?s4 ?s5 ?s6 ?s7 ?s8 A5.out).mono ?_
 (case s1 => exact B81.out)
 (case s2 => exact Xc HR1_2)
 (case s3 => exact HC1_2.out)
 (case s4 => exact B82.out)
 (case s5 => exact Xc HR2_0)
 (case s6 => exact HC2_0.out)
 (case s7 => exact Xc HR2_1)
 (case s8 => exact HC2_1.out)
 rintro e w8 ⟨v715, rfl, ho0, hb⟩
 refine ⟨_, rfl, ?_⟩
 have HO12 := Am (Kd.R_lower (Kd.R_newB ho0 (g := g3_) (o := .cells #[.int .i64 a3_0] 3 (0, 0)) B3.out) (below_size Xi))
 replace B81 := Xbb B81 hb
 replace B1 := Xbb B1 hb
 replace B82 := Xbb B82 hb
 replace B2 := Xbb B2 hb
 replace B3 := Xbb B3 hb
 replace HB := Xhb hb
 try clear hb
 try clear hb2
 try clear hk
 try clear hi
 try clear ho0
 obtain ⟨Ao9, co9, eo9⟩ := Kd.R_slice HO12.out
 (first | subst eo9 | (injection eo9 with f1_ f2_ f3_; have f4_ := f1_.symm; have f5_ := f3_.symm; clear f1_ f2_ f3_; subst f4_; subst f5_))
 refine hK.out _ _ ⟨Xk B1 0, Xk B2 0, Xk B3 0⟩ (fun hHeld => ?_)
 clear hK K
 refine Xno ?_
 refine On 5 11 8 63 (fun K hK => ?_)
 refine Gs Tryz.func116 #[.slice Ao9 t10.length co9, .int .i64 a3_0] ?_
 with_reducible refine (slices_Contains_int_int.calls k _ _ t10 a3_0 t11 _ ?s1 ?s2 A6.out).mono ?_
 (case s1 => exact Xcd (Kd.R_reads' HO12.out).2.2)
 (case s2 => exact (Kd.R_reads' HO12.out).2.1)
 rintro e w' ⟨rfl, ⟨nd, rfl⟩⟩
 refine ⟨_, rfl, ?_⟩
 refine hK.out _ _ ⟨Xk B1 0, Xk B2 0, Xk B3 0⟩ (fun hHeld => ?_)
 clear hK K
 refine Xno ?_
 refine Pu 6 12 8 127 ?_
 refine Pu 7 5 8 255 ?_
 refine Dn ?_
 try go_wp2_with (fail)
 go_ret
 exact ⟨Xe, Xi⟩
def slices_IndexFunc_int_int_at_impl_Doc_circle_1.l0 : Nat → List Int → Int → Int → Int → Int → Int → List (S113) → List (S39) → List (S39) → Option (Int)
 | 0, _, _, _, _, _, _, _, _, _ => none
 | k + 1, x0, x7, x8, x28000, x56000, x56001, x56002, x57000, x57001 => if x8 < x7 then (if 0 ≤ x8 then (if x8 < (x0.length : Int) then ((impl_Doc_circle_1.f k (rd x0 x8) x56000 x56001 x56002 x57000 x57001 x28000).bind fun t10 => (if t10 = true then (some x8) else (slices_IndexFunc_int_int_at_impl_Doc_circle_1.l0 k x0 x7 (wrap64 (x8 + 1)) x28000 x56000 x56001 x56002 x57000 x57001))) else (none)) else (none)) else (some (-1))
def slices_IndexFunc_int_int_at_impl_Doc_circle_1.f (k : Nat) (l0 : List Int) (a1_0_0 : Int) (a1_0_1 : Int) (l1_0_2 : List (S113)) (l1_1_0 : List (S39)) (l1_1_1 : List (S39)) (a1_2_0 : Int) : Option (Int) := slices_IndexFunc_int_int_at_impl_Doc_circle_1.l0 k l0 (l0.length : Int) 0 a1_2_0 a1_0_0 a1_0_1 l1_0_2 l1_1_0 l1_1_1
theorem slices_IndexFunc_int_int_at_impl_Doc_circle_1.calls (k : Nat) (A0 : Option Addr) (c0 : Nat) (l0 : List Int) (g1_0_ : Nat) (q1_0_ : Nat) (g1_1_ : Nat) (q1_1_ : Nat) (g1_2_ : Nat) (a1_0_0 : Int) (a1_0_1 : Int) (A1_0_2 : Option Addr) (c1_0_2 : Nat) (l1_0_2 : List (S113)) (A1_1_0 : Option Addr) (c1_1_0 : Nat) (l1_1_0 : List (S39)) (A1_1_1 : Option Addr) (c1_1_1 : Nat) (l1_1_1 : List (S39)) (a1_2_0 : Int) (r : Int) (w : World) (hr0 : Kd.C (Kd.int .i64) w A0 l0.length l0) (hc0 : l0.length ≤ c0) (hq1_0_ : w.heap[q1_0_]? = some (.cells #[.int .i64 a1_0_0, .int .i64 a1_0_1, .slice A1_0_2 l1_0_2.length c1_0_2] 35 (0, 0))) (hg1_0_ : w.heap[g1_0_]? = some (.cells #[.pointer (some ⟨q1_0_, 0, none⟩)] 115 (0, 0))) (hq1_1_ : w.heap[q1_1_]? = some (.cells #[.slice A1_1_0 l1_1_0.length c1_1_0, .slice A1_1_1 l1_1_1.length c1_1_1] 53 (0, 0))) (hg1_1_ : w.heap[g1_1_]? = some (.cells #[.pointer (some ⟨q1_1_, 0, none⟩)] 88 (0, 0))) (hg1_2_ : w.heap[g1_2_]? = some (.cells #[.int .i64 a1_2_0] 3 (0, 0))) (hr1_0_2 : Kd.C k113 w A1_0_2 l1_0_2.length l1_0_2) (hc1_0_2 : l1_0_2.length ≤ c1_0_2) (hr1_1_0 : Kd.C k39 w A1_1_0 l1_1_0.length l1_1_0) (hc1_1_0 : l1_1_0.length ≤ c1_1_0) (hr1_1_1 : Kd.C k39 w A1_1_1 l1_1_1.length l1_1_1) (hc1_1_1 : l1_1_1.length ≤ c1_1_1) (h : slices_IndexFunc_int_int_at_impl_Doc_circle_1.f k l0 a1_0_0 a1_0_1 l1_0_2 l1_1_0 l1_1_1 a1_2_0 = some r) :
  Calls Tryz.prog 148 #[.slice A0 l0.length c0, .func (.func 115) #[] #[.pointer (some ⟨g1_0_, 0, none⟩), .pointer (some ⟨g1_1_, 0, none⟩), .pointer (some ⟨g1_2_, 0, none⟩)]] w fun e w' => e = .returned (.int .i64 r) ∧ Below w.heap.size w w' := by
 have HR0 := Am hr0
 have HC0 := Am hc0
 clear hr0 hc0
 have HR1_0_2 := Am hr1_0_2
 have HC1_0_2 := Am hc1_0_2
 clear hr1_0_2 hc1_0_2
 have HR1_1_0 := Am hr1_1_0
 have HC1_1_0 := Am hc1_1_0
 clear hr1_1_0 hc1_1_0
 have HR1_1_1 := Am hr1_1_1
 have HC1_1_1 := Am hc1_1_1
 clear hr1_1_1 hc1_1_1
 have B55 := Am hq1_0_
 clear hq1_0_
 have B25 := Am hg1_0_
 clear hg1_0_
 have B56 := Am hq1_1_
 clear hq1_1_
 have B26 := Am hg1_1_
 clear hg1_1_
 have B27 := Am hg1_2_
 clear hg1_2_
 have HB := Am (Below.refl w.heap.size w)
 have H : (slices_IndexFunc_int_int_at_impl_Doc_circle_1.l0 k l0 (l0.length : Int) 0 a1_2_0 a1_0_0 a1_0_1 l1_0_2 l1_1_0 l1_1_1) = some r := h
 clear h
 have H' := Am H
 clear H
 go_enter Tryz.func148, Tryz.ntmps148
 go_wp2
 go_loopg [8] k (fun kq v8 w' => ∃ (x8_1 : Int), v8 = .int .i64 x8_1 ∧ Aside0 (slices_IndexFunc_int_int_at_impl_Doc_circle_1.l0 kq l0 (l0.length : Int) x8_1 a1_2_0 a1_0_0 a1_0_1 l1_0_2 l1_1_0 l1_1_1 = some r) ∧ Aside0 (kq ≤ k) ∧ Aside0 (w'.heap[q1_0_]? = some (.cells #[.int .i64 a1_0_0, .int .i64 a1_0_1, (.slice A1_0_2 l1_0_2.length c1_0_2)] 35 (0, 0))) ∧ Aside0 (w'.heap[g1_0_]? = some (.cells #[.pointer (some ⟨q1_0_, 0, none⟩)] 115 (0, 0))) ∧ Aside0 (w'.heap[q1_1_]? = some (.cells #[(.slice A1_1_0 l1_1_0.length c1_1_0), (.slice A1_1_1 l1_1_1.length c1_1_1)] 53 (0, 0))) ∧ Aside0 (w'.heap[g1_1_]? = some (.cells #[.pointer (some ⟨q1_1_, 0, none⟩)] 88 (0, 0))) ∧ Aside0 (w'.heap[g1_2_]? = some (.cells #[.int .i64 a1_2_0] 3 (0, 0))) ∧ Aside0 (Below w.heap.size w w'))
 case atStart => exact ⟨(0), Xr, H', Xkr, B55, B25, B56, B26, B27, ⟨Xi⟩⟩
 clear H'
 obtain ⟨x8_1, rfl, HA, HK1, B55, B25, B56, B26, B27, HB⟩ := hrel
 cases gk with | zero => cases HA.out | succ k1 => ?_
 have H := HA.out
 clear HA
 simp only [slices_IndexFunc_int_int_at_impl_Doc_circle_1.l0] at H
 obtain ⟨c3b0, H⟩ | ⟨c3b0, H⟩ := Xit H
 ·obtain ⟨c4b0, H⟩ := Xid H
  obtain ⟨c5b0, H⟩ := Xid H
  obtain ⟨t12, A6, H⟩ := Xbi H
  try dsimp only at H
  have HC7 := Am H
  clear H
  have p13 : 0 ≤ (x8_1 : Int) := Xo
  have q13 : x8_1 < (l0.length : Int) := Xo
  obtain ⟨ad13, e13, hx13_0⟩ := Kd.at_int HR0.out x8_1 p13 q13
  cases e13
  replace hx13_0 := Xm HB hx13_0
  replace p13 := eq_true p13
  replace q13 := eq_true q13
  go_upto_if 16 with (go_at_call 115; (with_reducible refine (impl_Doc_circle_1.calls k1 (rd l0 x8_1) g1_0_ q1_0_ a1_0_0 a1_0_1 A1_0_2 c1_0_2 l1_0_2 g1_1_ q1_1_ A1_1_0 c1_1_0 l1_1_0 A1_1_1 c1_1_1 l1_1_1 g1_2_ a1_2_0 t12 _ ?s1 ?s2 ?s3 ?s4 ?s5 ?s6 ?s7 ?s8 ?s9 ?s10 ?s11 A6.out).mono ?_); (case s1 => exact B55.out); (case s2 => exact B25.out); (case s3 => exact Xc HR1_0_2); (case s4 => exact HC1_0_2.out); (case s5 => exact B56.out); (case s6 => exact B26.out); (case s7 => exact Xc HR1_1_0); (case s8 => exact HC1_1_0.out); (case s9 => exact Xc HR1_1_1); (case s10 => exact HC1_1_1.out); (case s11 => exact B27.out); rintro e w8 ⟨rfl, hb⟩; replace B55 := Xbb B55 hb; replace B25 := Xbb B25 hb; replace B56 := Xbb B56 hb; replace B26 := Xbb B26 hb; replace B27 := Xbb B27 hb; replace HB := Xhb hb; clear hb)
  have H := HC7.out
  clear HC7
  by_cases c9 : t12 = true
  ·subst c9
   try rw [if_pos rfl] at H
   obtain rfl := Xsi H
   go_wp2
   go_ret
   exact ⟨Xe, Xi⟩
  replace c9 := Xbf c9
  subst c9
  try rw [if_neg Xft] at H
  have H' := Am H
  clear H
  go_wp2
  go_roundg k1
  case measure => have := HK1.out; omega
  case rel => exact ⟨(wrap64 (x8_1 + 1)), Xr, H', Xk1, B55, B25, B56, B26, B27, ⟨Xi⟩⟩
 obtain rfl := Xsi H
 go_wp2
 go_ret
 exact ⟨Xe, Xi⟩
end Go.Proofs.YtahhgjkgfbppeaaGreat.XA
