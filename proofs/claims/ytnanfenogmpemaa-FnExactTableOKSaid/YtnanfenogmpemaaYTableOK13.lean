/- Contracts of the program's functions: each Go function that is named below comes to what its Lean function says. Written by xprint.py (a program of this session's, over the kit's print). Conditions: each contract's own premises. -/
import Derived.Test.YtnanfenogmpemaaYTableOK0
import Derived.Test.YtnanfenogmpemaaYTableOK9
import Derived.Test.YtnanfenogmpemaaYTableOK12
namespace Go.Proofs.Ytnanfenogmpemaa.XA
open Go.RowKit Go.Proofs.YtnanfenogmpemaaW.PrintWords Go.Proofs.YtnanfenogmpemaaW.PrintLast Go.Proofs.YtnanfenogmpemaaW.PrintMore XW
attribute [local go_sem] max2_int min2_int max_two min_two max_three min_three max_four min_four   -- for this text's walks alone
set_option linter.unusedVariables false
set_option linter.unusedSimpArgs false

/-! ### slices_IndexFunc_impl_Hold_impl_Hold_at_impl_Table_waiting_1: function 82 -/
def slices_IndexFunc_impl_Hold_impl_Hold_at_impl_Table_waiting_1.l0 : Nat → List (S55) → Int → Int → Int → Option (Int)
 | 0, _, _, _, _ => none
 | k + 1, x0, x7, x8, x26000 => if x8 < x7 then (if 0 ≤ x8 then (if x8 < (x0.length : Int) then ((impl_Table_waiting_1.f ((rd_T55 x0 x8).f0) ((rd_T55 x0 x8).f1) ((rd_T55 x0 x8).f2) x26000).bind fun t302 => (if t302 = true then (some x8) else (slices_IndexFunc_impl_Hold_impl_Hold_at_impl_Table_waiting_1.l0 k x0 x7 (wrap64 (x8 + 1)) x26000))) else (none)) else (none)) else (some (-1))
def slices_IndexFunc_impl_Hold_impl_Hold_at_impl_Table_waiting_1.f (k : Nat) (l0 : List (S55)) (a1_0_0 : Int) : Option (Int) := slices_IndexFunc_impl_Hold_impl_Hold_at_impl_Table_waiting_1.l0 k l0 (l0.length : Int) 0 a1_0_0
set_option maxHeartbeats 8000000 in
set_option maxRecDepth 100000 in
theorem slices_IndexFunc_impl_Hold_impl_Hold_at_impl_Table_waiting_1.calls (k : Nat) (A0 : Option Addr) (c0 : Nat) (l0 : List (S55)) (g1_0_ : Nat) (a1_0_0 : Int) (r : Int) (w : World) (hr0 : Kd.C k55 w A0 l0.length l0) (hc0 : l0.length ≤ c0) (hg1_0_ : w.heap[g1_0_]? = some (.cells #[.int .i64 a1_0_0] 3 (0, 0))) (h : slices_IndexFunc_impl_Hold_impl_Hold_at_impl_Table_waiting_1.f k l0 a1_0_0 = some r) :
  Calls Try.prog 82 #[.slice A0 l0.length c0, .func (.func 83) #[] #[.pointer (some ⟨g1_0_, 0, none⟩)]] w fun e w' => e = .returned (.int .i64 r) ∧ Below w.heap.size w w' := by
 have hu55 := Try.underlying55
 have HR0 := Aside0.mk hr0
 have HC0 := Aside0.mk hc0
 clear hr0 hc0
 have BK25 := Aside0.mk hg1_0_
 clear hg1_0_
 have HB := Aside0.mk (Below.refl w.heap.size w)
 have H : (slices_IndexFunc_impl_Hold_impl_Hold_at_impl_Table_waiting_1.l0 k l0 (l0.length : Int) 0 a1_0_0) = some r := h
 clear h
 have H' := Aside0.mk H
 clear H
 go_enter Try.func82, Try.ntmps82
 go_wp2
 go_loopg [8] k (fun kq v8 w' => ∃ (x8_1 : Int), v8 = .int .i64 x8_1 ∧ Aside0 (slices_IndexFunc_impl_Hold_impl_Hold_at_impl_Table_waiting_1.l0 kq l0 (l0.length : Int) x8_1 a1_0_0 = some r) ∧ Aside0 (kq ≤ k) ∧ Aside0 (w'.heap[g1_0_]? = some (.cells #[.int .i64 a1_0_0] 3 (0, 0))) ∧ Aside0 (Below w.heap.size w w'))
 case atStart => exact ⟨(0), Xr, H', Xkr, BK25, ⟨Xi⟩⟩
 case round =>
  clear H'
  obtain ⟨x8_1, rfl, HA, HK1, BK25, HB⟩ := hrel
  cases gk with
  | zero => cases HA.out
  | succ k1 =>
   have H := HA.out
   clear HA
   simp only [slices_IndexFunc_impl_Hold_impl_Hold_at_impl_Table_waiting_1.l0] at H
   obtain ⟨c3b0, H⟩ | ⟨c3b0, H⟩ := Xit H
   ·obtain ⟨c4b0, H⟩ := Xid H
    obtain ⟨c5b0, H⟩ := Xid H
    obtain ⟨t302, A6, H⟩ := Xbi H
    (try dsimp only at H)
    have HC7 := Aside0.mk H
    clear H
    obtain ⟨ad301, e301, p301, q301, hx301_0, hx301_1, hx301_2⟩ := at_B55 HR0 x8_1 Xa Xa HB
    cases e301
    go_upto_if 16 with (first | (go_at_call 83; (with_reducible refine (impl_Table_waiting_1.calls ((rd_T55 l0 x8_1).f0) ((rd_T55 l0 x8_1).f1) ((rd_T55 l0 x8_1).f2) g1_0_ a1_0_0 t302 _ ?side1 A6.out).mono ?_); (case side1 => exact BK25.out); rintro e w8 ⟨rfl, hb⟩; replace BK25 := Xbb BK25 hb; replace HB := Aside0.mk (below_step Xi hb); clear hb))
    have H := HC7.out
    clear HC7
    by_cases c9 : t302 = true
    ·subst c9
     (first | rw [if_pos rfl] at H | skip)
     obtain rfl := Option.some.inj H
     go_wp2
     go_ret
     exact ⟨Xe, Xi⟩
    ·replace c9 := Bool.eq_false_iff.mpr c9
     subst c9
     (first | rw [if_neg (show ¬ (false = true) by decide)] at H | skip)
     have H' := Aside0.mk H
     clear H
     go_wp2
     go_roundg k1
     case measure => have := HK1.out; omega
     case rel => exact ⟨(wrap64 (x8_1 + 1)), Xr, H', Xk1, BK25, ⟨Xi⟩⟩
   ·obtain rfl := Option.some.inj H
    go_wp2
    go_ret
    exact ⟨Xe, Xi⟩

/-! ### impl_Table_waiting: function 44 -/
def impl_Table_waiting.f (k : Nat) (l0_0 : List (S55)) (l0_1 : List (S55)) (a1 : Int) : Option (Int) := (slices_IndexFunc_impl_Hold_impl_Hold_at_impl_Table_waiting_1.f k l0_1 a1).bind fun t304 => (some t304)
set_option maxHeartbeats 8000000 in
set_option maxRecDepth 100000 in
theorem impl_Table_waiting.calls (k : Nat) (g0_ : Nat) (A0_0 : Option Addr) (c0_0 : Nat) (l0_0 : List (S55)) (A0_1 : Option Addr) (c0_1 : Nat) (l0_1 : List (S55)) (a1 : Int) (r : Int) (w : World) (hg0_ : w.heap[g0_]? = some (.cells #[.slice A0_0 l0_0.length c0_0, .slice A0_1 l0_1.length c0_1] 37 (0, 0))) (hr0_0 : Kd.C k55 w A0_0 l0_0.length l0_0) (hc0_0 : l0_0.length ≤ c0_0) (hr0_1 : Kd.C k55 w A0_1 l0_1.length l0_1) (hc0_1 : l0_1.length ≤ c0_1) (h : impl_Table_waiting.f k l0_0 l0_1 a1 = some r) :
  Calls Try.prog 44 #[.pointer (some ⟨g0_, 0, none⟩), .int .i64 a1] w fun e w' => e = .returned (.int .i64 r) ∧ Below w.heap.size w w' := by
 have HR0_0 := Aside0.mk hr0_0
 have HC0_0 := Aside0.mk hc0_0
 clear hr0_0 hc0_0
 have HR0_1 := Aside0.mk hr0_1
 have HC0_1 := Aside0.mk hc0_1
 clear hr0_1 hc0_1
 have BK0 := Aside0.mk hg0_
 clear hg0_
 have HB := Aside0.mk (Below.refl w.heap.size w)
 have H : ((slices_IndexFunc_impl_Hold_impl_Hold_at_impl_Table_waiting_1.f k l0_1 a1).bind fun t304 => (some t304)) = some r := h
 clear h
 obtain ⟨t304, A3, H⟩ := Xbi H
 (try dsimp only at H)
 obtain rfl := Option.some.inj H
 go_enter Try.func44, Try.ntmps44
 go_wp2_with (first | ((with_reducible refine gate_dst (N := 3) rfl ?_); refine Xbox 3 #[.int .i64 a1] 3 ?_; intro gb303 hg w4 hbox hb; have BK303 := Aside0.mk (hbox); have GE303 := Xge hg Xi; replace HB := Aside0.mk (below_step Xi hb); have NB0_303 := Xnb hg BK0; have NB303_0 := Xns NB0_303; replace BK0 := Xbb BK0 hb; clear hb hbox hg; have hnb5 := NB0_303.out; have hnc5 := NB303_0.out; obtain ⟨hcz6_0, hcz6_1⟩ := Xc2 BK0) | ((with_reducible refine gate_callee (f := 82) rfl ?_); refine Xgo 10 Try.func82 #[.slice A0_1 l0_1.length c0_1, .func (.func 83) #[] #[.pointer (some ⟨gb303, 0, none⟩)]] ?_; (with_reducible refine (slices_IndexFunc_impl_Hold_impl_Hold_at_impl_Table_waiting_1.calls k _ _ l0_1 gb303 a1 t304 _ ?side1 ?side2 ?side3 A3.out).mono ?_); (case side1 => exact Xc HR0_1); (case side2 => exact HC0_1.out); (case side3 => exact BK303.out); rintro e w7 ⟨rfl, hb⟩; refine ⟨_, rfl, ?_⟩; replace BK0 := Xbb BK0 hb; replace BK303 := Xbb BK303 hb; replace HB := Aside0.mk (below_step Xi hb); clear hb))
 go_ret
 exact ⟨Xe, Xi⟩

/-! ### impl_TableOK: function 15 -/
mutual
def impl_TableOK.j0 : Nat → Bool → Int → Int → List (S92) → List (S55) → List (S55) → Option (Bool)
 | 0, _, _, _, _, _, _ => none
 | k + 1, x17, x306000, x306001, x306002, x307000, x307001 => if x17 = true then (some false) else (impl_TableOK.l0 k x307001 (x307001.length : Int) 0 x306000 x306001 x306002 x307000 x307001)
def impl_TableOK.l0 : Nat → List (S55) → Int → Int → Int → Int → List (S92) → List (S55) → List (S55) → Option (Bool)
 | 0, _, _, _, _, _, _, _, _ => none
 | k + 1, x19, x20, x21, x306000, x306001, x306002, x307000, x307001 => if x21 < x20 then (if 0 ≤ x21 then (if x21 < (x19.length : Int) then ((impl_Doc_isHold.f k x306000 x306001 x306002 ((rd_T55 x19 x21).f0) ((rd_T55 x19 x21).f1) ((rd_T55 x19 x21).f2)).bind fun t310 => (if t310 = true then ((impl_Table_waiting.f k x307000 x307001 ((rd_T55 x19 x21).f0)).bind fun t311 => (if t311 = x21 then (impl_TableOK.l0 k x19 x20 (wrap64 (x21 + 1)) x306000 x306001 x306002 x307000 x307001) else (some false))) else (some false))) else (none)) else (none)) else (some true)
end
def impl_TableOK.f (k : Nat) (a0_0 : Int) (a0_1 : Int) (l0_2 : List (S92)) (l1_0 : List (S55)) (l1_1 : List (S55)) : Option (Bool) := (impl_HoldsOK.f k a0_0 a0_1 l0_2 l1_0).bind fun t307 => (if t307 = true then (impl_TableOK.j0 k (decide ((l1_1.length : Int) > 6)) a0_0 a0_1 l0_2 l1_0 l1_1) else (impl_TableOK.j0 k true a0_0 a0_1 l0_2 l1_0 l1_1))
set_option maxHeartbeats 8000000 in
set_option maxRecDepth 100000 in
theorem impl_TableOK.calls (k : Nat) (a0_0 : Int) (a0_1 : Int) (A0_2 : Option Addr) (c0_2 : Nat) (l0_2 : List (S92)) (A1_0 : Option Addr) (c1_0 : Nat) (l1_0 : List (S55)) (A1_1 : Option Addr) (c1_1 : Nat) (l1_1 : List (S55)) (r : Bool) (w : World) (hr0_2 : Kd.C k92 w A0_2 l0_2.length l0_2) (hc0_2 : l0_2.length ≤ c0_2) (hr1_0 : Kd.C k55 w A1_0 l1_0.length l1_0) (hc1_0 : l1_0.length ≤ c1_0) (hr1_1 : Kd.C k55 w A1_1 l1_1.length l1_1) (hc1_1 : l1_1.length ≤ c1_1) (h : impl_TableOK.f k a0_0 a0_1 l0_2 l1_0 l1_1 = some r) :
  Calls Try.prog 15 #[.agg #[.int .i64 a0_0, .int .i64 a0_1, .slice A0_2 l0_2.length c0_2], .agg #[.slice A1_0 l1_0.length c1_0, .slice A1_1 l1_1.length c1_1]] w fun e w' => e = .returned (.bool r) ∧ Below w.heap.size w w' := by
 have hu33 := Try.underlying33
 have hu37 := Try.underlying37
 have hu55 := Try.underlying55
 have HR0_2 := Aside0.mk hr0_2
 have HC0_2 := Aside0.mk hc0_2
 clear hr0_2 hc0_2
 have HR1_0 := Aside0.mk hr1_0
 have HC1_0 := Aside0.mk hc1_0
 clear hr1_0 hc1_0
 have HR1_1 := Aside0.mk hr1_1
 have HC1_1 := Aside0.mk hc1_1
 clear hr1_1 hc1_1
 have HB := Aside0.mk (Below.refl w.heap.size w)
 have H : ((impl_HoldsOK.f k a0_0 a0_1 l0_2 l1_0).bind fun t307 => (if t307 = true then (impl_TableOK.j0 k (decide ((l1_1.length : Int) > 6)) a0_0 a0_1 l0_2 l1_0 l1_1) else (impl_TableOK.j0 k true a0_0 a0_1 l0_2 l1_0 l1_1))) = some r := h
 clear h
 have HC3 := Aside0.mk H
 clear H
 go_enter Try.func15, Try.ntmps15
 go_upto_region 1 with (first | ((with_reducible refine gate_dst (N := 2) rfl ?_); (try (refine gate_guard (by rfl) ?_; dsimp only)); refine Xbox 2 #[.int .i64 a0_0, .int .i64 a0_1, .slice A0_2 l0_2.length c0_2] 33 ?_; intro gb305 hg w4 hbox hb; have BK305 := Aside0.mk (hbox); have GE305 := Xge hg Xi; replace HB := Aside0.mk (below_step Xi hb); clear hb hbox hg) | ((with_reducible refine gate_dst (N := 3) rfl ?_); (try (refine gate_guard (by rfl) ?_; dsimp only)); refine Xbox 3 #[.slice A1_0 l1_0.length c1_0, .slice A1_1 l1_1.length c1_1] 37 ?_; intro gb306 hg w5 hbox hb; have BK306 := Aside0.mk (hbox); have GE306 := Xge hg Xi; replace HB := Aside0.mk (below_step Xi hb); have NB305_306 := Xnb hg BK305; have NB306_305 := Xns NB305_306; replace BK305 := Xbb BK305 hb; clear hb hbox hg))
 (try simp only [XW.q0, XW.q1, XW.q2])
 go_cut [17] (fun v17 wc => ∃ (kq : Nat) (x17_2 : Bool), v17 = .bool x17_2 ∧ Aside0 (impl_TableOK.j0 kq x17_2 a0_0 a0_1 l0_2 l1_0 l1_1 = some r) ∧ Aside0 (kq ≤ k) ∧ Aside0 (wc.heap[gb305]? = some (.cells #[.int .i64 a0_0, .int .i64 a0_1, (.slice A0_2 l0_2.length c0_2)] 33 (0, 0))) ∧ Aside0 (wc.heap[gb306]? = some (.cells #[(.slice A1_0 l1_0.length c1_0), (.slice A1_1 l1_1.length c1_1)] 37 (0, 0))) ∧ Aside0 (Below w.heap.size w wc))
 case first =>
  have H := HC3.out
  clear HC3
  obtain ⟨t307, A6, H⟩ := Xbi H
  (try dsimp only at H)
  by_cases c7 : t307 = true
  ·subst c7
   (first | rw [if_pos rfl] at H | skip)
   have H' := Aside0.mk H
   clear H
   have hnb8 := NB305_306.out
   have hnc8 := NB306_305.out
   obtain ⟨hcz9_0, hcz9_1, hcz9_2⟩ := Xc3 BK305
   obtain ⟨hfz9_0, hfz9_1, hfz9_2⟩ := Xf3 BK305
   obtain ⟨hcz10_0, hcz10_1⟩ := Xc2 BK306
   obtain ⟨hfz10_0, hfz10_1⟩ := Xf2 BK306
   go_wp2_with (first | ((with_reducible refine gate_callee (f := 42) rfl ?_); refine Xgo 10 Try.func42 #[.agg #[.int .i64 a0_0, .int .i64 a0_1, .slice A0_2 l0_2.length c0_2], .slice A1_0 l1_0.length c1_0] ?_; (with_reducible refine (impl_HoldsOK.calls k a0_0 a0_1 _ _ l0_2 _ _ l1_0 true _ ?side1 ?side2 ?side3 ?side4 A6.out).mono ?_); (case side1 => exact Xc HR0_2); (case side2 => exact HC0_2.out); (case side3 => exact Xc HR1_0); (case side4 => exact HC1_0.out); rintro e w11 ⟨rfl, hb⟩; refine ⟨_, rfl, ?_⟩; replace BK305 := Xbb BK305 hb; replace BK306 := Xbb BK306 hb; replace HB := Aside0.mk (below_step Xi hb); clear hb; obtain ⟨hcz12_0, hcz12_1⟩ := Xc2 BK306; obtain ⟨hfz12_0, hfz12_1⟩ := Xf2 BK306))
   go_meet
   case rel => exact ⟨_, (decide ((l1_1.length : Int) > 6)), Xr, H', Xko, BK305, BK306, ⟨Xi⟩⟩
  ·replace c7 := Bool.eq_false_iff.mpr c7
   subst c7
   (first | rw [if_neg (show ¬ (false = true) by decide)] at H | skip)
   have H' := Aside0.mk H
   clear H
   have hnb13 := NB305_306.out
   have hnc13 := NB306_305.out
   obtain ⟨hcz14_0, hcz14_1, hcz14_2⟩ := Xc3 BK305
   obtain ⟨hfz14_0, hfz14_1, hfz14_2⟩ := Xf3 BK305
   obtain ⟨hcz15_0, hcz15_1⟩ := Xc2 BK306
   obtain ⟨hfz15_0, hfz15_1⟩ := Xf2 BK306
   go_wp2_with (first | ((with_reducible refine gate_callee (f := 42) rfl ?_); refine Xgo 10 Try.func42 #[.agg #[.int .i64 a0_0, .int .i64 a0_1, .slice A0_2 l0_2.length c0_2], .slice A1_0 l1_0.length c1_0] ?_; (with_reducible refine (impl_HoldsOK.calls k a0_0 a0_1 _ _ l0_2 _ _ l1_0 false _ ?side1 ?side2 ?side3 ?side4 A6.out).mono ?_); (case side1 => exact Xc HR0_2); (case side2 => exact HC0_2.out); (case side3 => exact Xc HR1_0); (case side4 => exact HC1_0.out); rintro e w16 ⟨rfl, hb⟩; refine ⟨_, rfl, ?_⟩; replace BK305 := Xbb BK305 hb; replace BK306 := Xbb BK306 hb; replace HB := Aside0.mk (below_step Xi hb); clear hb))
   go_meet
   case rel => exact ⟨_, (true), Xr, H', Xko, BK305, BK306, ⟨Xi⟩⟩
 case rest =>
  clear HC3
  obtain ⟨kq, x17_2, rfl, HA, HJ2, BK305, BK306, HB⟩ := hcut
  cases kq with
  | zero => cases HA.out
  | succ kj2 =>
   have H := HA.out
   clear HA
   simp only [impl_TableOK.j0] at H
   by_cases c17 : x17_2 = true
   ·subst c17
    (first | rw [if_pos rfl] at H | skip)
    obtain rfl := Option.some.inj H
    go_wp2
    go_ret
    exact ⟨Xe, Xi⟩
   ·replace c17 := Bool.eq_false_iff.mpr c17
    subst c17
    (first | rw [if_neg (show ¬ (false = true) by decide)] at H | skip)
    have H' := Aside0.mk H
    clear H
    have hnb18 := NB306_305.out
    have hnc18 := NB305_306.out
    obtain ⟨hcz19_0, hcz19_1⟩ := Xc2 BK306
    obtain ⟨hfz19_0, hfz19_1⟩ := Xf2 BK306
    go_wp2
    go_loopg [21] kj2 (fun kq v21 w' => ∃ (x21_2 : Int), v21 = .int .i64 x21_2 ∧ Aside0 (impl_TableOK.l0 kq l1_1 (l1_1.length : Int) x21_2 a0_0 a0_1 l0_2 l1_0 l1_1 = some r) ∧ Aside0 (kq ≤ kj2) ∧ Aside0 (w'.heap[gb305]? = some (.cells #[.int .i64 a0_0, .int .i64 a0_1, (.slice A0_2 l0_2.length c0_2)] 33 (0, 0))) ∧ Aside0 (w'.heap[gb306]? = some (.cells #[(.slice A1_0 l1_0.length c1_0), (.slice A1_1 l1_1.length c1_1)] 37 (0, 0))) ∧ Aside0 (Below w.heap.size w w'))
    case atStart => exact ⟨(0), Xr, H', Xkr, BK305, BK306, ⟨Xi⟩⟩
    case round =>
     clear H'
     (try clear c17); (try clear hcz19_0); (try clear hcz19_1); (try clear hfz19_0); (try clear hfz19_1)
     obtain ⟨x21_2, rfl, HA, HK2, BK305, BK306, HB⟩ := hrel
     cases gk with
     | zero => cases HA.out
     | succ k2 =>
      have H := HA.out
      clear HA
      simp only [impl_TableOK.l0] at H
      obtain ⟨c20b0, H⟩ | ⟨c20b0, H⟩ := Xit H
      ·obtain ⟨c21b0, H⟩ := Xid H
       obtain ⟨c22b0, H⟩ := Xid H
       have HC23 := Aside0.mk H
       clear H
       obtain ⟨ad308, e308, p308, q308, hx308_0, hx308_1, hx308_2⟩ := at_B55 HR1_1 x21_2 Xa Xa HB
       cases e308
       go_upto_region 6 with (first | ((with_reducible refine gate_dst (N := 6) rfl ?_); (try (refine gate_guard (by rfl) ?_; dsimp only)); refine Xbox 6 #[.int .i64 0, .int .i64 0, .int .i64 0] 55 ?_; intro gb309 hg w24 hbox hb; have BK309 := Aside0.mk (hbox); have GE309 := Xge hg Xi; replace HB := Aside0.mk (below_step Xi hb); have NB305_309 := Xnb hg BK305; have NB309_305 := Xns NB305_309; replace BK305 := Xbb BK305 hb; have NB306_309 := Xnb hg BK306; have NB309_306 := Xns NB306_309; replace BK306 := Xbb BK306 hb; clear hb hbox hg; have hnb25 := NB309_305.out; have hnc25 := NB305_309.out; have hnb26 := NB309_306.out; have hnc26 := NB306_309.out; obtain ⟨hcz27_0, hcz27_1, hcz27_2⟩ := Xc3 BK309; obtain ⟨hfz27_0, hfz27_1, hfz27_2⟩ := Xf3 BK309) | ((with_reducible refine gate_store (t := 55) (p := 6) rfl ?_); refine store_event (t := 55) (p := 6) (v := ?vo_w28) (w1 := (((w24.setCell ⟨gb309, 0, none⟩ (.int .i64 ((rd_T55 l1_1 x21_2).f0))).setCell ⟨gb309, 1, none⟩ (.int .i64 ((rd_T55 l1_1 x21_2).f1))).setCell ⟨gb309, 2, none⟩ (.int .i64 ((rd_T55 l1_1 x21_2).f2)))) ?hg ?ho ?hn ?hr ?_; (case ho => rfl); (case hg => rfl); (case hn => rfl); (case hr => first | (go_simp; done) | (go_simp; rfl)); intro w28 hw; have n0_ : Aside0 (w28.heap[gb305]? = some (.cells #[.int .i64 a0_0, .int .i64 a0_1, .slice A0_2 l0_2.length c0_2] 33 (0, 0))) := ⟨(by rw [hw]; exact (by (with_reducible repeat (first | refine blk_drewN ?_ _ | refine blk_drew ?_ | refine blk_alloc ?_ _)); refine blk_far ?_ NB305_309.out _; (with_reducible repeat (first | refine blk_drewN ?_ _ | refine blk_drew ?_ | refine blk_alloc ?_ _)); refine blk_far ?_ NB305_309.out _; (with_reducible repeat (first | refine blk_drewN ?_ _ | refine blk_drew ?_ | refine blk_alloc ?_ _)); refine blk_far ?_ NB305_309.out _; (with_reducible repeat (first | refine blk_drewN ?_ _ | refine blk_drew ?_ | refine blk_alloc ?_ _)); exact BK305.out))⟩; have n1_ : Aside0 (w28.heap[gb306]? = some (.cells #[.slice A1_0 l1_0.length c1_0, .slice (some ad308) l1_1.length c1_1] 37 (0, 0))) := ⟨(by rw [hw]; exact (by (with_reducible repeat (first | refine blk_drewN ?_ _ | refine blk_drew ?_ | refine blk_alloc ?_ _)); refine blk_far ?_ NB306_309.out _; (with_reducible repeat (first | refine blk_drewN ?_ _ | refine blk_drew ?_ | refine blk_alloc ?_ _)); refine blk_far ?_ NB306_309.out _; (with_reducible repeat (first | refine blk_drewN ?_ _ | refine blk_drew ?_ | refine blk_alloc ?_ _)); refine blk_far ?_ NB306_309.out _; (with_reducible repeat (first | refine blk_drewN ?_ _ | refine blk_drew ?_ | refine blk_alloc ?_ _)); exact BK306.out))⟩; have n2_ : Aside0 (w28.heap[gb309]? = some (.cells #[.int .i64 ((rd_T55 l1_1 x21_2).f0), .int .i64 ((rd_T55 l1_1 x21_2).f1), .int .i64 ((rd_T55 l1_1 x21_2).f2)] 55 (0, 0))) := ⟨(by rw [hw]; exact (by (with_reducible repeat (first | refine blk_drewN ?_ _ | refine blk_drew ?_ | refine blk_alloc ?_ _)); refine blk_put (cs := #[.int .i64 ((rd_T55 l1_1 x21_2).f0), .int .i64 ((rd_T55 l1_1 x21_2).f1), .int .i64 0]) ?_ 2 _ rfl; (with_reducible repeat (first | refine blk_drewN ?_ _ | refine blk_drew ?_ | refine blk_alloc ?_ _)); refine blk_put (cs := #[.int .i64 ((rd_T55 l1_1 x21_2).f0), .int .i64 0, .int .i64 0]) ?_ 1 _ rfl; (with_reducible repeat (first | refine blk_drewN ?_ _ | refine blk_drew ?_ | refine blk_alloc ?_ _)); refine blk_put (cs := #[.int .i64 0, .int .i64 0, .int .i64 0]) ?_ 0 _ rfl; (with_reducible repeat (first | refine blk_drewN ?_ _ | refine blk_drew ?_ | refine blk_alloc ?_ _)); exact BK309.out))⟩; have n3_ : Aside0 (Below w.heap.size w w28) := ⟨(by rw [hw]; exact Xi)⟩; clear hw; clear BK305; clear BK306; clear BK309; clear HB; have BK305 := n0_; have BK306 := n1_; have BK309 := n2_; have HB := n3_; clear n0_ n1_ n2_ n3_))
       have H := HC23.out
       clear HC23
       obtain ⟨t310, A29, H⟩ := Xbi H
       (try dsimp only at H)
       by_cases c30 : t310 = true
       ·subst c30
        (first | rw [if_pos rfl] at H | skip)
        obtain ⟨t311, A31, H⟩ := Xbi H
        (try dsimp only at H)
        have HC32 := Aside0.mk H
        clear H
        have hnb33 := NB309_305.out
        have hnc33 := NB305_309.out
        have hnb34 := NB309_306.out
        have hnc34 := NB306_309.out
        obtain ⟨hcz35_0, hcz35_1, hcz35_2⟩ := Xc3 BK309
        obtain ⟨hfz35_0, hfz35_1, hfz35_2⟩ := Xf3 BK309
        go_upto_if 35 with (first | ((with_reducible refine gate_callee (f := 43) rfl ?_); refine Xgo 27 Try.func43 #[.pointer (some ⟨gb305, 0, none⟩), .agg #[.int .i64 ((rd_T55 l1_1 x21_2).f0), .int .i64 ((rd_T55 l1_1 x21_2).f1), .int .i64 ((rd_T55 l1_1 x21_2).f2)]] ?_; (with_reducible refine (impl_Doc_isHold.calls k2 gb305 a0_0 a0_1 A0_2 c0_2 l0_2 ((rd_T55 l1_1 x21_2).f0) ((rd_T55 l1_1 x21_2).f1) ((rd_T55 l1_1 x21_2).f2) true _ ?side1 ?side2 ?side3 A29.out).mono ?_); (case side1 => exact BK305.out); (case side2 => exact Xc HR0_2); (case side3 => exact HC0_2.out); rintro e w36 ⟨rfl, hb⟩; refine ⟨_, rfl, ?_⟩; replace BK305 := Xbb BK305 hb; replace BK306 := Xbb BK306 hb; replace BK309 := Xbb BK309 hb; replace HB := Aside0.mk (below_step Xi hb); clear hb; obtain ⟨hcz37_0, hcz37_1, hcz37_2⟩ := Xc3 BK309; obtain ⟨hfz37_0, hfz37_1, hfz37_2⟩ := Xf3 BK309) | (go_at_call 44; (with_reducible refine (impl_Table_waiting.calls k2 gb306 A1_0 c1_0 l1_0 (some ad308) c1_1 l1_1 ((rd_T55 l1_1 x21_2).f0) t311 _ ?side1 ?side2 ?side3 ?side4 ?side5 A31.out).mono ?_); (case side1 => exact BK306.out); (case side2 => exact Xc HR1_0); (case side3 => exact HC1_0.out); (case side4 => exact Xc HR1_1); (case side5 => exact HC1_1.out); rintro e w38 ⟨rfl, hb⟩; replace BK305 := Xbb BK305 hb; replace BK306 := Xbb BK306 hb; replace BK309 := Xbb BK309 hb; replace HB := Aside0.mk (below_step Xi hb); clear hb))
        have H := HC32.out
        clear HC32
        obtain ⟨c39, H⟩ | ⟨c39, H⟩ := Xiu H
        ·have c39b0 : (t311 == x21_2) = true := beq_iff_eq.mpr c39
         have c39b1 : (t311 != x21_2) = false := bne_eq_false_iff_eq.mpr c39
         clear c39
         (first | rw [c39b0] | (simp only [i64_w, i32_w]; rw [c39b0]) | skip)
         have H' := Aside0.mk H
         clear H
         go_wp2
         go_roundg k2
         case measure => have := HJ2.out; have := HK2.out; omega
         case rel => exact ⟨(wrap64 (x21_2 + 1)), Xr, H', ⟨by have := HJ2.out; have := HK2.out; omega⟩, BK305, BK306, ⟨Xi⟩⟩
        ·have c39b0 : (t311 == x21_2) = false := beq_eq_false_iff_ne.mpr c39
         have c39b1 : (t311 != x21_2) = true := bne_iff_ne.mpr c39
         (first | rw [c39b0] | (simp only [i64_w, i32_w]; rw [c39b0]) | skip)
         obtain rfl := Option.some.inj H
         go_wp2
         go_ret
         exact ⟨Xe, Xi⟩
       ·replace c30 := Bool.eq_false_iff.mpr c30
        subst c30
        (first | rw [if_neg (show ¬ (false = true) by decide)] at H | skip)
        obtain rfl := Option.some.inj H
        have hnb40 := NB309_305.out
        have hnc40 := NB305_309.out
        have hnb41 := NB309_306.out
        have hnc41 := NB306_309.out
        obtain ⟨hcz42_0, hcz42_1, hcz42_2⟩ := Xc3 BK309
        obtain ⟨hfz42_0, hfz42_1, hfz42_2⟩ := Xf3 BK309
        go_wp2_with (first | ((with_reducible refine gate_callee (f := 43) rfl ?_); refine Xgo 27 Try.func43 #[.pointer (some ⟨gb305, 0, none⟩), .agg #[.int .i64 ((rd_T55 l1_1 x21_2).f0), .int .i64 ((rd_T55 l1_1 x21_2).f1), .int .i64 ((rd_T55 l1_1 x21_2).f2)]] ?_; (with_reducible refine (impl_Doc_isHold.calls k2 gb305 a0_0 a0_1 A0_2 c0_2 l0_2 ((rd_T55 l1_1 x21_2).f0) ((rd_T55 l1_1 x21_2).f1) ((rd_T55 l1_1 x21_2).f2) false _ ?side1 ?side2 ?side3 A29.out).mono ?_); (case side1 => exact BK305.out); (case side2 => exact Xc HR0_2); (case side3 => exact HC0_2.out); rintro e w43 ⟨rfl, hb⟩; refine ⟨_, rfl, ?_⟩; replace BK305 := Xbb BK305 hb; replace BK306 := Xbb BK306 hb; replace BK309 := Xbb BK309 hb; replace HB := Aside0.mk (below_step Xi hb); clear hb))
        go_ret
        exact ⟨Xe, Xi⟩
      ·obtain rfl := Option.some.inj H
       go_wp2
       go_ret
       exact ⟨Xe, Xi⟩

/-! ### laws_eqIntS: function 125 -/
def laws_eqIntS.l0 : Nat → List Int → List Int → Int → Option (Bool)
 | 0, _, _, _ => none
 | k + 1, x0, x1, x5 => if x5 < (x0.length : Int) then (if 0 ≤ x5 then (if x5 < (x1.length : Int) then (if (rd x0 x5) = (rd x1 x5) then (laws_eqIntS.l0 k x0 x1 (wrap64 (x5 + 1))) else (some false)) else (none)) else (none)) else (some true)
def laws_eqIntS.f (k : Nat) (l0 : List Int) (l1 : List Int) : Option (Bool) := if (l0.length : Int) = (l1.length : Int) then (laws_eqIntS.l0 k l0 l1 0) else (some false)
set_option maxHeartbeats 8000000 in
set_option maxRecDepth 100000 in
theorem laws_eqIntS.calls (k : Nat) (A0 : Option Addr) (c0 : Nat) (l0 : List Int) (A1 : Option Addr) (c1 : Nat) (l1 : List Int) (r : Bool) (w : World) (hr0 : Kd.C (Kd.int .i64) w A0 l0.length l0) (hc0 : l0.length ≤ c0) (hr1 : Kd.C (Kd.int .i64) w A1 l1.length l1) (hc1 : l1.length ≤ c1) (h : laws_eqIntS.f k l0 l1 = some r) :
  Calls Try.prog 125 #[.slice A0 l0.length c0, .slice A1 l1.length c1] w fun e w' => e = .returned (.bool r) ∧ Drawn0 w w' := by
 have HR0 := Aside0.mk hr0
 have HC0 := Aside0.mk hc0
 clear hr0 hc0
 have HR1 := Aside0.mk hr1
 have HC1 := Aside0.mk hc1
 clear hr1 hc1
 have H : (if (l0.length : Int) = (l1.length : Int) then (laws_eqIntS.l0 k l0 l1 0) else (some false)) = some r := h
 clear h
 obtain ⟨c3, H⟩ | ⟨c3, H⟩ := Xiu H
 ·have c3b0 : ((l0.length : Int) == (l1.length : Int)) = true := beq_iff_eq.mpr c3
  have c3b1 : ((l0.length : Int) != (l1.length : Int)) = false := bne_eq_false_iff_eq.mpr c3
  have c3b2 : (l0.length == l1.length) = true := by first | simpa using c3 | (simp at c3 ⊢; omega)
  clear c3
  have H' := Aside0.mk H
  clear H
  go_enter Try.func125, Try.ntmps125
  go_wp2
  repeat (go_quiet (fail); try go_wp2)
  go_loopg [5] k (fun kq v5 w' => ∃ (x5_1 : Int), v5 = .int .i64 x5_1 ∧ Aside0 (laws_eqIntS.l0 kq l0 l1 x5_1 = some r) ∧ Aside0 (kq ≤ k) ∧ Drawn0 w w')
  case atStart => exact ⟨(0), Xr, H', Xkr, by repeat (first | exact Drawn0.refl _ | apply Drawn0.step)⟩
  case round =>
   clear H'
   (try clear c1); (try clear c3); (try clear c3b0); (try clear c3b1); (try clear c3b2)
   obtain ⟨x5_1, rfl, HA, HK1, ⟨m1, rfl⟩⟩ := hrel
   cases gk with
   | zero => cases HA.out
   | succ k1 =>
    have H := HA.out
    clear HA
    simp only [laws_eqIntS.l0] at H
    obtain ⟨c4b0, H⟩ | ⟨c4b0, H⟩ := Xit H
    ·obtain ⟨c5b0, H⟩ := Xid H
     obtain ⟨c6b0, H⟩ := Xid H
     obtain ⟨c7, H⟩ | ⟨c7, H⟩ := Xiu H
     ·have c7b0 : ((rd l0 x5_1) == (rd l1 x5_1)) = true := beq_iff_eq.mpr c7
      have c7b1 : ((rd l0 x5_1) != (rd l1 x5_1)) = false := bne_eq_false_iff_eq.mpr c7
      clear c7
      have H' := Aside0.mk H
      clear H
      have p312 : 0 ≤ (x5_1 : Int) := of_decide_eq_true Xa
      have q312 : x5_1 < (l0.length : Int) := of_decide_eq_true Xa
      obtain ⟨ad312, e312, hx312_0⟩ := Kd.at_int HR0.out x5_1 p312 q312
      cases e312
      replace p312 := eq_true p312
      replace q312 := eq_true q312
      have p313 : 0 ≤ (x5_1 : Int) := of_decide_eq_true Xa
      have q313 : x5_1 < (l1.length : Int) := of_decide_eq_true Xa
      obtain ⟨ad313, e313, hx313_0⟩ := Kd.at_int HR1.out x5_1 p313 q313
      cases e313
      replace p313 := eq_true p313
      replace q313 := eq_true q313
      go_wp2
      repeat (go_quiet (fail); try go_wp2)
      go_roundg k1
      case measure => have := HK1.out; omega
      case rel => exact ⟨(wrap64 (x5_1 + 1)), Xr, H', Xk1, by repeat (first | exact Drawn0.refl _ | apply Drawn0.step)⟩
     ·have c7b0 : ((rd l0 x5_1) == (rd l1 x5_1)) = false := beq_eq_false_iff_ne.mpr c7
      have c7b1 : ((rd l0 x5_1) != (rd l1 x5_1)) = true := bne_iff_ne.mpr c7
      obtain rfl := Option.some.inj H
      have p312 : 0 ≤ (x5_1 : Int) := of_decide_eq_true Xa
      have q312 : x5_1 < (l0.length : Int) := of_decide_eq_true Xa
      obtain ⟨ad312, e312, hx312_0⟩ := Kd.at_int HR0.out x5_1 p312 q312
      cases e312
      replace p312 := eq_true p312
      replace q312 := eq_true q312
      have p313 : 0 ≤ (x5_1 : Int) := of_decide_eq_true Xa
      have q313 : x5_1 < (l1.length : Int) := of_decide_eq_true Xa
      obtain ⟨ad313, e313, hx313_0⟩ := Kd.at_int HR1.out x5_1 p313 q313
      cases e313
      replace p313 := eq_true p313
      replace q313 := eq_true q313
      go_wp2
      repeat (go_quiet (fail); try go_wp2)
      go_ret
      exact ⟨Xr, Xdr⟩
    ·obtain rfl := Option.some.inj H
     go_wp2
     repeat (go_quiet (fail); try go_wp2)
     go_ret
     exact ⟨Xr, Xdr⟩
 ·have c3b0 : ((l0.length : Int) == (l1.length : Int)) = false := beq_eq_false_iff_ne.mpr c3
  have c3b1 : ((l0.length : Int) != (l1.length : Int)) = true := bne_iff_ne.mpr c3
  have c3b2 : (l0.length == l1.length) = false := by first | simpa using c3 | (simp at c3 ⊢; omega)
  obtain rfl := Option.some.inj H
  go_enter Try.func125, Try.ntmps125
  go_wp2
  repeat (go_quiet (fail); try go_wp2)
  go_ret
  exact ⟨Xr, Xdr⟩

/-! ### laws_eqNode: function 84 -/
def laws_eqNode.f (k : Nat) (a0_0 : Int) (a0_1 : Int) (a0_2 : Int) (a0_3 : ByteArray) (l0_4 : List Int) (a1_0 : Int) (a1_1 : Int) (a1_2 : Int) (a1_3 : ByteArray) (l1_4 : List Int) : Option (Bool) := if a0_0 = a1_0 then (if a0_1 = a1_1 then (if a0_2 = a1_2 then (if a0_3.toList = a1_3.toList then ((laws_eqIntS.f k l0_4 l1_4).bind fun t316 => (if t316 = true then (some true) else (some false))) else (some false)) else (some false)) else (some false)) else (some false)
set_option maxHeartbeats 8000000 in
set_option maxRecDepth 100000 in
theorem laws_eqNode.calls (k : Nat) (a0_0 : Int) (a0_1 : Int) (a0_2 : Int) (a0_3 : ByteArray) (A0_4 : Option Addr) (c0_4 : Nat) (l0_4 : List Int) (a1_0 : Int) (a1_1 : Int) (a1_2 : Int) (a1_3 : ByteArray) (A1_4 : Option Addr) (c1_4 : Nat) (l1_4 : List Int) (r : Bool) (w : World) (hr0_4 : Kd.C (Kd.int .i64) w A0_4 l0_4.length l0_4) (hc0_4 : l0_4.length ≤ c0_4) (hr1_4 : Kd.C (Kd.int .i64) w A1_4 l1_4.length l1_4) (hc1_4 : l1_4.length ≤ c1_4) (h : laws_eqNode.f k a0_0 a0_1 a0_2 a0_3 l0_4 a1_0 a1_1 a1_2 a1_3 l1_4 = some r) :
  Calls Try.prog 84 #[.agg #[.int .i64 a0_0, .int .i64 a0_1, .int .i64 a0_2, .string a0_3, .slice A0_4 l0_4.length c0_4], .agg #[.int .i64 a1_0, .int .i64 a1_1, .int .i64 a1_2, .string a1_3, .slice A1_4 l1_4.length c1_4]] w fun e w' => e = .returned (.bool r) ∧ Below w.heap.size w w' := by
 have hu92 := Try.underlying92
 have HR0_4 := Aside0.mk hr0_4
 have HC0_4 := Aside0.mk hc0_4
 clear hr0_4 hc0_4
 have HR1_4 := Aside0.mk hr1_4
 have HC1_4 := Aside0.mk hc1_4
 clear hr1_4 hc1_4
 have HB := Aside0.mk (Below.refl w.heap.size w)
 have H : (if a0_0 = a1_0 then (if a0_1 = a1_1 then (if a0_2 = a1_2 then (if a0_3.toList = a1_3.toList then ((laws_eqIntS.f k l0_4 l1_4).bind fun t316 => (if t316 = true then (some true) else (some false))) else (some false)) else (some false)) else (some false)) else (some false)) = some r := h
 clear h
 have HC3 := Aside0.mk H
 clear H
 go_enter Try.func84, Try.ntmps84
 go_upto_if 9 with (first | ((with_reducible refine gate_dst (N := 2) rfl ?_); refine Xbox 2 #[.int .i64 a0_0, .int .i64 a0_1, .int .i64 a0_2, .string a0_3, .slice A0_4 l0_4.length c0_4] 92 ?_; intro gb314 hg w4 hbox hb; have BK314 := Aside0.mk (hbox); have GE314 := Xge hg Xi; replace HB := Aside0.mk (below_step Xi hb); clear hb hbox hg) | ((with_reducible refine gate_dst (N := 3) rfl ?_); refine Xbox 3 #[.int .i64 a1_0, .int .i64 a1_1, .int .i64 a1_2, .string a1_3, .slice A1_4 l1_4.length c1_4] 92 ?_; intro gb315 hg w5 hbox hb; have BK315 := Aside0.mk (hbox); have GE315 := Xge hg Xi; replace HB := Aside0.mk (below_step Xi hb); have NB314_315 := Xnb hg BK314; have NB315_314 := Xns NB314_315; replace BK314 := Xbb BK314 hb; clear hb hbox hg; have hnb6 := NB314_315.out; have hnc6 := NB315_314.out; obtain ⟨hcz7_0, hcz7_1, hcz7_2, hcz7_3, hcz7_4⟩ := Xc5 BK314; obtain ⟨hcz8_0, hcz8_1, hcz8_2, hcz8_3, hcz8_4⟩ := Xc5 BK315))
 have H := HC3.out
 clear HC3
 obtain ⟨c9, H⟩ | ⟨c9, H⟩ := Xiu H
 ·have c9b0 : (a0_0 == a1_0) = true := beq_iff_eq.mpr c9
  have c9b1 : (a0_0 != a1_0) = false := bne_eq_false_iff_eq.mpr c9
  clear c9
  (first | rw [c9b0] | (simp only [i64_w, i32_w]; rw [c9b0]) | skip)
  obtain ⟨c10, H⟩ | ⟨c10, H⟩ := Xiu H
  ·have c10b0 : (a0_1 == a1_1) = true := beq_iff_eq.mpr c10
   have c10b1 : (a0_1 != a1_1) = false := bne_eq_false_iff_eq.mpr c10
   clear c10
   obtain ⟨c11, H⟩ | ⟨c11, H⟩ := Xiu H
   ·have c11b0 : (a0_2 == a1_2) = true := beq_iff_eq.mpr c11
    have c11b1 : (a0_2 != a1_2) = false := bne_eq_false_iff_eq.mpr c11
    clear c11
    obtain ⟨c12, H⟩ | ⟨c12, H⟩ := Xiu H
    ·have c12b0 : (a0_3.toList == a1_3.toList) = true := beq_iff_eq.mpr c12
     have c12b1 : (a0_3.toList != a1_3.toList) = false := bne_eq_false_iff_eq.mpr c12
     clear c12
     obtain ⟨t316, A13, H⟩ := Xbi H
     (try dsimp only at H)
     have HC14 := Aside0.mk H
     clear H
     have hnb15 := NB314_315.out
     have hnc15 := NB315_314.out
     obtain ⟨hcz16_0, hcz16_1, hcz16_2, hcz16_3, hcz16_4⟩ := Xc5 BK314
     obtain ⟨hcz17_0, hcz17_1, hcz17_2, hcz17_3, hcz17_4⟩ := Xc5 BK315
     go_upto_if 30 with (first | ((with_reducible refine gate_callee (f := 125) rfl ?_); refine Xgo 29 Try.func125 #[.slice A0_4 l0_4.length c0_4, .slice A1_4 l1_4.length c1_4] ?_; (with_reducible refine (laws_eqIntS.calls k _ _ l0_4 _ _ l1_4 t316 _ ?side1 ?side2 ?side3 ?side4 A13.out).mono ?_); (case side1 => exact Xc HR0_4); (case side2 => exact HC0_4.out); (case side3 => exact Xc HR1_4); (case side4 => exact HC1_4.out); rintro e w' ⟨rfl, ⟨nd, rfl⟩⟩; refine ⟨_, rfl, ?_⟩))
     have H := HC14.out
     clear HC14
     by_cases c18 : t316 = true
     ·subst c18
      (first | rw [if_pos rfl] at H | skip)
      obtain rfl := Option.some.inj H
      go_wp2
      go_ret
      exact ⟨Xe, Xi⟩
     ·replace c18 := Bool.eq_false_iff.mpr c18
      subst c18
      (first | rw [if_neg (show ¬ (false = true) by decide)] at H | skip)
      obtain rfl := Option.some.inj H
      go_wp2
      go_ret
      exact ⟨Xe, Xi⟩
    ·have c12b0 : (a0_3.toList == a1_3.toList) = false := beq_eq_false_iff_ne.mpr c12
     have c12b1 : (a0_3.toList != a1_3.toList) = true := bne_iff_ne.mpr c12
     obtain rfl := Option.some.inj H
     have hnb19 := NB314_315.out
     have hnc19 := NB315_314.out
     obtain ⟨hcz20_0, hcz20_1, hcz20_2, hcz20_3, hcz20_4⟩ := Xc5 BK314
     obtain ⟨hcz21_0, hcz21_1, hcz21_2, hcz21_3, hcz21_4⟩ := Xc5 BK315
     go_wp2
     go_ret
     exact ⟨Xe, Xi⟩
   ·have c11b0 : (a0_2 == a1_2) = false := beq_eq_false_iff_ne.mpr c11
    have c11b1 : (a0_2 != a1_2) = true := bne_iff_ne.mpr c11
    obtain rfl := Option.some.inj H
    have hnb22 := NB314_315.out
    have hnc22 := NB315_314.out
    obtain ⟨hcz23_0, hcz23_1, hcz23_2, hcz23_3, hcz23_4⟩ := Xc5 BK314
    obtain ⟨hcz24_0, hcz24_1, hcz24_2, hcz24_3, hcz24_4⟩ := Xc5 BK315
    go_wp2
    go_ret
    exact ⟨Xe, Xi⟩
  ·have c10b0 : (a0_1 == a1_1) = false := beq_eq_false_iff_ne.mpr c10
   have c10b1 : (a0_1 != a1_1) = true := bne_iff_ne.mpr c10
   obtain rfl := Option.some.inj H
   have hnb25 := NB314_315.out
   have hnc25 := NB315_314.out
   obtain ⟨hcz26_0, hcz26_1, hcz26_2, hcz26_3, hcz26_4⟩ := Xc5 BK314
   obtain ⟨hcz27_0, hcz27_1, hcz27_2, hcz27_3, hcz27_4⟩ := Xc5 BK315
   go_wp2
   go_ret
   exact ⟨Xe, Xi⟩
 ·have c9b0 : (a0_0 == a1_0) = false := beq_eq_false_iff_ne.mpr c9
  have c9b1 : (a0_0 != a1_0) = true := bne_iff_ne.mpr c9
  (first | rw [c9b0] | (simp only [i64_w, i32_w]; rw [c9b0]) | skip)
  obtain rfl := Option.some.inj H
  go_wp2
  go_ret
  exact ⟨Xe, Xi⟩

end Go.Proofs.Ytnanfenogmpemaa.XA
