/- Contracts of the program's functions: each Go function that is named below comes to what its Lean function says. Written by xprint.py (a program of this session's, over the kit's print). Conditions: each contract's own premises. -/
import Derived.Test.YtnanfenogmpemaaYTableOK0
import Derived.Test.YtnanfenogmpemaaYTableOK5
import Derived.Test.YtnanfenogmpemaaYTableOK6
namespace Go.Proofs.Ytnanfenogmpemaa.XA
open Go.RowKit Go.Proofs.YtnanfenogmpemaaW.PrintWords Go.Proofs.YtnanfenogmpemaaW.PrintLast Go.Proofs.YtnanfenogmpemaaW.PrintMore XW
attribute [local go_sem] max2_int min2_int max_two min_two max_three min_three max_four min_four   -- for this text's walks alone
set_option linter.unusedVariables false
set_option linter.unusedSimpArgs false

/-! ### spec_HoldsOK: function 39 -/
def spec_HoldsOK.f (k : Nat) (a0_0 : Int) (a0_1 : Int) (l0_2 : List (S92)) (l1 : List (S55)) : Option (Bool) := if (l1.length : Int) > 4096 then (some false) else ((spec_l02OK.f k a0_0 a0_1 l0_2).bind fun t169 => (if t169 = true then ((spec_l07Holds.f k a0_0 a0_1 l0_2 l1).bind fun t170 => (some t170)) else (some false)))
set_option maxHeartbeats 8000000 in
set_option maxRecDepth 100000 in
theorem spec_HoldsOK.calls (k : Nat) (a0_0 : Int) (a0_1 : Int) (A0_2 : Option Addr) (c0_2 : Nat) (l0_2 : List (S92)) (A1 : Option Addr) (c1 : Nat) (l1 : List (S55)) (r : Bool) (w : World) (hr0_2 : Kd.C k92 w A0_2 l0_2.length l0_2) (hc0_2 : l0_2.length ≤ c0_2) (hr1 : Kd.C k55 w A1 l1.length l1) (hc1 : l1.length ≤ c1) (h : spec_HoldsOK.f k a0_0 a0_1 l0_2 l1 = some r) :
  Calls Try.prog 39 #[.agg #[.int .i64 a0_0, .int .i64 a0_1, .slice A0_2 l0_2.length c0_2], .slice A1 l1.length c1] w fun e w' => e = .returned (.bool r) ∧ Below w.heap.size w w' := by
 have hu33 := Try.underlying33
 have HR0_2 := Aside0.mk hr0_2
 have HC0_2 := Aside0.mk hc0_2
 clear hr0_2 hc0_2
 have HR1 := Aside0.mk hr1
 have HC1 := Aside0.mk hc1
 clear hr1 hc1
 have HB := Aside0.mk (Below.refl w.heap.size w)
 have H : (if (l1.length : Int) > 4096 then (some false) else ((spec_l02OK.f k a0_0 a0_1 l0_2).bind fun t169 => (if t169 = true then ((spec_l07Holds.f k a0_0 a0_1 l0_2 l1).bind fun t170 => (some t170)) else (some false)))) = some r := h
 clear h
 have HC3 := Aside0.mk H
 clear H
 go_enter Try.func39, Try.ntmps39
 go_upto_if 7 with (first | ((with_reducible refine gate_dst (N := 2) rfl ?_); refine Xbox 2 #[.int .i64 a0_0, .int .i64 a0_1, .slice A0_2 l0_2.length c0_2] 33 ?_; intro gb168 hg w4 hbox hb; have BK168 := Aside0.mk (hbox); have GE168 := Xge hg Xi; replace HB := Aside0.mk (below_step Xi hb); clear hb hbox hg))
 have H := HC3.out
 clear HC3
 obtain ⟨c5, H⟩ | ⟨c5, H⟩ := Xiu H
 ·have c5b0 : decide (4096 < (l1.length : Int)) = true := decide_eq_true c5
  have c5b1 : decide (4096 < l1.length) = true := decide_eq_true (by omega)
  clear c5
  (first | rw [c5b0] | (simp only [i64_w, i32_w]; rw [c5b0]) | skip)
  obtain rfl := Option.some.inj H
  go_wp2
  go_ret
  exact ⟨Xe, Xi⟩
 ·have c5b0 : decide (4096 < (l1.length : Int)) = false := decide_eq_false c5
  have c5b1 : decide (4096 < l1.length) = false := decide_eq_false (by omega)
  clear c5
  (first | rw [c5b0] | (simp only [i64_w, i32_w]; rw [c5b0]) | skip)
  obtain ⟨t169, A6, H⟩ := Xbi H
  (try dsimp only at H)
  by_cases c7 : t169 = true
  ·subst c7
   (first | rw [if_pos rfl] at H | skip)
   obtain ⟨t170, A8, H⟩ := Xbi H
   (try dsimp only at H)
   obtain rfl := Option.some.inj H
   obtain ⟨hcz9_0, hcz9_1, hcz9_2⟩ := Xc3 BK168
   go_wp2_with (first | ((with_reducible refine gate_callee (f := 73) rfl ?_); refine Xgo 9 Try.func73 #[.agg #[.int .i64 a0_0, .int .i64 a0_1, .slice A0_2 l0_2.length c0_2]] ?_; (with_reducible refine (spec_l02OK.calls k a0_0 a0_1 _ _ l0_2 true _ ?side1 ?side2 A6.out).mono ?_); (case side1 => exact Xc HR0_2); (case side2 => exact HC0_2.out); rintro e w10 ⟨rfl, hb⟩; refine ⟨_, rfl, ?_⟩; replace BK168 := Xbb BK168 hb; replace HB := Aside0.mk (below_step Xi hb); clear hb; obtain ⟨hcz11_0, hcz11_1, hcz11_2⟩ := Xc3 BK168) | (go_at_call 74; (with_reducible refine (spec_l07Holds.calls k a0_0 a0_1 _ _ l0_2 _ _ l1 t170 _ ?side1 ?side2 ?side3 ?side4 A8.out).mono ?_); (case side1 => exact Xc HR0_2); (case side2 => exact HC0_2.out); (case side3 => exact Xc HR1); (case side4 => exact HC1.out); rintro e w12 ⟨rfl, hb⟩; replace BK168 := Xbb BK168 hb; replace HB := Aside0.mk (below_step Xi hb); clear hb))
   go_ret
   exact ⟨Xe, Xi⟩
  ·replace c7 := Bool.eq_false_iff.mpr c7
   subst c7
   (first | rw [if_neg (show ¬ (false = true) by decide)] at H | skip)
   obtain rfl := Option.some.inj H
   obtain ⟨hcz13_0, hcz13_1, hcz13_2⟩ := Xc3 BK168
   go_wp2_with (first | ((with_reducible refine gate_callee (f := 73) rfl ?_); refine Xgo 9 Try.func73 #[.agg #[.int .i64 a0_0, .int .i64 a0_1, .slice A0_2 l0_2.length c0_2]] ?_; (with_reducible refine (spec_l02OK.calls k a0_0 a0_1 _ _ l0_2 false _ ?side1 ?side2 A6.out).mono ?_); (case side1 => exact Xc HR0_2); (case side2 => exact HC0_2.out); rintro e w14 ⟨rfl, hb⟩; refine ⟨_, rfl, ?_⟩; replace BK168 := Xbb BK168 hb; replace HB := Aside0.mk (below_step Xi hb); clear hb))
   go_ret
   exact ⟨Xe, Xi⟩

/-! ### spec_l08Waits: function 40 -/
mutual
def spec_l08Waits.l0 : Nat → List (S55) → Int → Int → Int → List (S92) → Option (Bool)
 | 0, _, _, _, _, _ => none
 | k + 1, x1, x5, x172000, x172001, x172002 => if x5 < (x1.length : Int) then (if 0 ≤ x5 then ((spec_l07Hold.f k x172000 x172001 x172002 ((rd_T55 x1 x5).f0) ((rd_T55 x1 x5).f1) ((rd_T55 x1 x5).f2)).bind fun t173 => (if t173 = true then (spec_l08Waits.l1 k x1 x5 0 x172000 x172001 x172002) else (some false))) else (none)) else (some true)
def spec_l08Waits.l1 : Nat → List (S55) → Int → Int → Int → Int → List (S92) → Option (Bool)
 | 0, _, _, _, _, _, _ => none
 | k + 1, x1, x5, x6, x172000, x172001, x172002 => if x6 < x5 then (if 0 ≤ x6 then (if x6 < (x1.length : Int) then (if 0 ≤ x5 then (if x5 < (x1.length : Int) then (if ((rd_T55 x1 x6).f0) = ((rd_T55 x1 x5).f0) then (some false) else (spec_l08Waits.l1 k x1 x5 (wrap64 (x6 + 1)) x172000 x172001 x172002)) else (none)) else (none)) else (none)) else (none)) else (spec_l08Waits.l0 k x1 (wrap64 (x5 + 1)) x172000 x172001 x172002)
end
def spec_l08Waits.f (k : Nat) (a0_0 : Int) (a0_1 : Int) (l0_2 : List (S92)) (l1 : List (S55)) : Option (Bool) := if (l1.length : Int) > 6 then (some false) else (spec_l08Waits.l0 k l1 0 a0_0 a0_1 l0_2)
def spec_l08Waits.T11 : Bool × List (List Nat × List Nat) := (true, [([], []), ([], []), ([0, 1], [0, 1]), ([2], [2]), ([3], [3]), ([], []), ([], []), ([5, 6], [5, 6]), ([7], [7]), ([8], [8]), ([4, 9], [4, 9])])
def spec_l08Waits.B11 : List Nat := [0, 0, 3, 7, 15, 0, 0, 96, 224, 480, 1023]
theorem spec_l08Waits.tab11 : rtab .any (opsOf Try.f40 11) = spec_l08Waits.T11 := by kernel_rfl
theorem spec_l08Waits.bits11 : waitsOk spec_l08Waits.T11.2 spec_l08Waits.B11 = true := by kernel_rfl
set_option maxHeartbeats 8000000 in
set_option maxRecDepth 100000 in
theorem spec_l08Waits.calls (k : Nat) (a0_0 : Int) (a0_1 : Int) (A0_2 : Option Addr) (c0_2 : Nat) (l0_2 : List (S92)) (A1 : Option Addr) (c1 : Nat) (l1 : List (S55)) (r : Bool) (w : World) (hr0_2 : Kd.C k92 w A0_2 l0_2.length l0_2) (hc0_2 : l0_2.length ≤ c0_2) (hr1 : Kd.C k55 w A1 l1.length l1) (hc1 : l1.length ≤ c1) (h : spec_l08Waits.f k a0_0 a0_1 l0_2 l1 = some r) :
  Calls Try.prog 40 #[.agg #[.int .i64 a0_0, .int .i64 a0_1, .slice A0_2 l0_2.length c0_2], .slice A1 l1.length c1] w fun e w' => e = .returned (.bool r) ∧ Below w.heap.size w w' := by
 have hu33 := Try.underlying33
 have hu55 := Try.underlying55
 have HR0_2 := Aside0.mk hr0_2
 have HC0_2 := Aside0.mk hc0_2
 clear hr0_2 hc0_2
 have HR1 := Aside0.mk hr1
 have HC1 := Aside0.mk hc1
 clear hr1 hc1
 have HB := Aside0.mk (Below.refl w.heap.size w)
 have H : (if (l1.length : Int) > 6 then (some false) else (spec_l08Waits.l0 k l1 0 a0_0 a0_1 l0_2)) = some r := h
 clear h
 have HC3 := Aside0.mk H
 clear H
 go_enter Try.func40, Try.ntmps40
 go_upto_if 9 with (first | ((with_reducible refine gate_dst (N := 2) rfl ?_); refine Xbox 2 #[.int .i64 a0_0, .int .i64 a0_1, .slice A0_2 l0_2.length c0_2] 33 ?_; intro gb171 hg w4 hbox hb; have BK171 := Aside0.mk (hbox); have GE171 := Xge hg Xi; replace HB := Aside0.mk (below_step Xi hb); clear hb hbox hg))
 have H := HC3.out
 clear HC3
 obtain ⟨c5, H⟩ | ⟨c5, H⟩ := Xiu H
 ·have c5b0 : decide (6 < (l1.length : Int)) = true := decide_eq_true c5
  have c5b1 : decide (6 < l1.length) = true := decide_eq_true (by omega)
  clear c5
  (first | rw [c5b0] | (simp only [i64_w, i32_w]; rw [c5b0]) | skip)
  obtain rfl := Option.some.inj H
  go_wp2
  go_ret
  exact ⟨Xe, Xi⟩
 ·have c5b0 : decide (6 < (l1.length : Int)) = false := decide_eq_false c5
  have c5b1 : decide (6 < l1.length) = false := decide_eq_false (by omega)
  clear c5
  (first | rw [c5b0] | (simp only [i64_w, i32_w]; rw [c5b0]) | skip)
  have H' := Aside0.mk H
  clear H
  go_wp2
  go_loopg [5] k (fun kq v5 w' => ∃ (x5_1 : Int), v5 = .int .i64 x5_1 ∧ Aside0 (spec_l08Waits.l0 kq l1 x5_1 a0_0 a0_1 l0_2 = some r) ∧ Aside0 (kq ≤ k) ∧ Aside0 (w'.heap[gb171]? = some (.cells #[.int .i64 a0_0, .int .i64 a0_1, (.slice A0_2 l0_2.length c0_2)] 33 (0, 0))) ∧ Aside0 (Below w.heap.size w w'))
  case atStart => exact ⟨(0), Xr, H', Xkr, BK171, ⟨Xi⟩⟩
  case round =>
   clear H'
   (try clear c1); (try clear c5); (try clear c5b0); (try clear c5b1)
   obtain ⟨x5_1, rfl, HA, HK1, BK171, HB⟩ := hrel
   cases gk with
   | zero => cases HA.out
   | succ k1 =>
    have H := HA.out
    clear HA
    simp only [spec_l08Waits.l0] at H
    obtain ⟨c6b0, H⟩ | ⟨c6b0, H⟩ := Xit H
    ·obtain ⟨c7b0, H⟩ := Xid H
     obtain ⟨t173, A8, H⟩ := Xbi H
     (try dsimp only at H)
     have HC9 := Aside0.mk H
     clear H
     try go_wp2_with (fail)
     replace BK171 := Aside0.mk (blk_drew BK171.out)
     replace HB := Aside0.mk (below_drew1 HB.out)
     have p172 : 0 ≤ (x5_1 : Int) := of_decide_eq_true Xa
     have q172 : x5_1 < (l1.length : Int) := of_decide_eq_true Xa
     obtain ⟨ad172, e172, hx172_0, hx172_1, hx172_2⟩ := at_T55 HR1.out x5_1 p172 q172
     have hw172_2 := hx172_2
     have hw172_1 := hx172_1
     have hw172_0 := hx172_0
     cases e172
     replace hx172_0 := Xm HB hx172_0
     replace hx172_1 := Xm HB hx172_1
     replace hx172_2 := Xm HB hx172_2
     replace p172 := eq_true p172
     replace q172 := eq_true q172
     refine start_ (n := 7) (S := fun w' => w'.cell? ⟨gb171, 0, none⟩ = some (.int .i64 a0_0) ∧ w'.cell? ⟨gb171, 1, none⟩ = some (.int .i64 a0_1) ∧ w'.cell? ⟨gb171, 2, none⟩ = some (.slice A0_2 l0_2.length c0_2) ∧ w'.cell? (ad172.add ((x5_1).toNat * 3)) = some (.int .i64 ((rd_T55 l1 x5_1).f0)) ∧ w'.cell? ⟨(ad172.add ((x5_1).toNat * 3)).block, (ad172.add ((x5_1).toNat * 3)).off + 1, none⟩ = some (.int .i64 ((rd_T55 l1 x5_1).f1)) ∧ w'.cell? ⟨(ad172.add ((x5_1).toNat * 3)).block, (ad172.add ((x5_1).toNat * 3)).off + 2, none⟩ = some (.int .i64 ((rd_T55 l1 x5_1).f2))) (ds := []) #[false, false, false, false, false, false, false] (by kernel_rfl) rfl rfl ⟨(blk_cell BK171.out 0).trans rfl, (blk_cell BK171.out 1).trans rfl, (blk_cell BK171.out 2).trans rfl, Xn hw172_0, Xn hw172_1, Xn hw172_2⟩ (fun hHeld => ?_)
     generalize wr.drew = w10 at BK171 HB hx172_0 hx172_1 hx172_2 hHeld ⊢
     refine pure_ (i := 1) (N := some 17) (v := ?_) (a' := ?_) (XW.bs 7 2) rfl rfl (by kernel_rfl) (fun _ _ _ h => h) (Or.inl ⟨by rfl, ?_⟩) ?_ ?_
     rotate_left
     ·intro w'
      go_simp
      with_reducible rfl
     rotate_left
     ·simp only [XW.q0, XW.q1, XW.q2, i64_w, i32_w]
      rfl
     refine pure_ (i := 2) (N := some 18) (v := ?_) (a' := ?_) (XW.bs 7 6) rfl rfl (by kernel_rfl) (fun _ _ _ h => h) (Or.inl ⟨by rfl, ?_⟩) ?_ ?_
     rotate_left
     ·intro w'
      go_simp
      with_reducible rfl
     rotate_left
     ·simp only [XW.q0, XW.q1, XW.q2, i64_w, i32_w]
      rfl
     refine pure_ (i := 3) (N := some 19) (v := ?_) (a' := ?_) (XW.bs 7 14) rfl rfl (by kernel_rfl) (fun _ _ _ h => h) (Or.inl ⟨by rfl, ?_⟩) ?_ ?_
     rotate_left
     ·intro w'
      go_simp
      with_reducible rfl
     rotate_left
     ·simp only [XW.q0, XW.q1, XW.q2, i64_w, i32_w]
      rfl
     refine take_ (i := 0) (N := some 16) (v := ?_) (a' := ?_) (XW.bs 7 15) rfl rfl (by kernel_rfl) (fun _ _ _ h => h) (Or.inl ⟨by rfl, ?_⟩) hHeld ?_ ?_
     rotate_left
     ·rintro w' ⟨s0, s1, s2, s3, s4, s5⟩
      go_simp
      with_reducible rfl
     rotate_left
     ·simp only [XW.q0, XW.q1, XW.q2, i64_w, i32_w]
      rfl
     refine take_ (i := 4) (N := some 20) (v := ?_) (a' := ?_) (XW.bs 7 31) rfl rfl (by kernel_rfl) (fun _ _ _ h => h) (Or.inl ⟨by rfl, ?_⟩) hHeld ?_ ?_
     rotate_left
     ·rintro w' ⟨s0, s1, s2, s3, s4, s5⟩
      go_simp
      with_reducible rfl
     rotate_left
     ·simp only [XW.q0, XW.q1, XW.q2, i64_w, i32_w]
      rfl
     refine one_ (i := 5) (N := some 21) (XW.bs 7 63) rfl rfl (by kernel_rfl) (by decide) (fun K hK => ?_)
     refine goes_ Try.func75 (by kernel_rfl) rfl #[.agg #[.int .i64 a0_0, .int .i64 a0_1, .slice A0_2 l0_2.length c0_2], .agg #[.int .i64 ((rd_T55 l1 x5_1).f0), .int .i64 ((rd_T55 l1 x5_1).f1), .int .i64 ((rd_T55 l1 x5_1).f2)]] (by rfl) rfl rfl (by (try simp only [List.map_toArray, List.map_cons, List.map_nil]); first | done | rfl | (simp only [List.length_drop, List.length_take]; rfl)) ?_
     with_reducible refine (spec_l07Hold.calls k1 a0_0 a0_1 _ _ l0_2 ((rd_T55 l1 x5_1).f0) ((rd_T55 l1 x5_1).f1) ((rd_T55 l1 x5_1).f2) t173 _ ?side1 ?side2 A8.out).mono ?_
     (case side1 => exact Xc HR0_2)
     (case side2 => exact HC0_2.out)
     rintro e w11 ⟨rfl, hb⟩
     refine ⟨_, rfl, ?_⟩
     replace BK171 := Xbb BK171 hb
     replace HB := Aside0.mk (below_step Xi hb)
     (try clear hb)
     (try clear hb2)
     (try clear hk)
     (try clear hi)
     refine hK.out _ _ ⟨(blk_cell BK171.out 0).trans rfl, (blk_cell BK171.out 1).trans rfl, (blk_cell BK171.out 2).trans rfl, Xn hw172_0, Xn hw172_1, Xn hw172_2⟩ (fun hHeld => ?_)
     clear hK K
     refine Xno ?_
     refine pure_ (i := 6) (N := some 22) (v := ?_) (a' := ?_) (XW.bs 7 127) rfl rfl (by kernel_rfl) (fun _ _ _ h => h) (Or.inl ⟨by rfl, ?_⟩) ?_ ?_
     rotate_left
     ·intro w'
      go_simp
      with_reducible rfl
     rotate_left
     ·simp only [XW.q0, XW.q1, XW.q2, i64_w, i32_w]
      rfl
     refine done_ (by kernel_rfl) ?_
     go_upto_if 22 with (fail)
     have H := HC9.out
     clear HC9
     by_cases c12 : t173 = true
     ·subst c12
      (first | rw [if_pos rfl] at H | skip)
      have H' := Aside0.mk H
      clear H
      go_wp2
      go_loopg [6] k1 (fun kq v6 w' => ∃ (x6_2 : Int), v6 = .int .i64 x6_2 ∧ Aside0 (spec_l08Waits.l1 kq l1 x5_1 x6_2 a0_0 a0_1 l0_2 = some r) ∧ Aside0 (kq ≤ k1) ∧ Aside0 (w'.heap[gb171]? = some (.cells #[.int .i64 a0_0, .int .i64 a0_1, (.slice A0_2 l0_2.length c0_2)] 33 (0, 0))) ∧ Aside0 (Below w.heap.size w w'))
      case atStart => exact ⟨(0), Xr, H', Xkr, BK171, ⟨Xi⟩⟩
      case round =>
       clear H'
       (try clear c1); (try clear c5); (try clear c5b0); (try clear c5b1); (try clear c6); (try clear c6b0); (try clear c7); (try clear c7b0); (try clear c12); (try clear hx172_0); (try clear hx172_1); (try clear hx172_2); (try clear p172); (try clear q172)
       obtain ⟨x6_2, rfl, HA, HK2, BK171, HB⟩ := hrel
       cases gk with
       | zero => cases HA.out
       | succ k2 =>
        have H := HA.out
        clear HA
        simp only [spec_l08Waits.l1] at H
        obtain ⟨c13b0, H⟩ | ⟨c13b0, H⟩ := Xit H
        ·(first | rw [c13b0] | (simp only [i64_w, i32_w]; rw [c13b0]) | skip)
         obtain ⟨c14b0, H⟩ := Xid H
         obtain ⟨c15b0, H⟩ := Xid H
         obtain ⟨c16b0, H⟩ := Xid H
         obtain ⟨c17b0, H⟩ := Xid H
         obtain ⟨c18, H⟩ | ⟨c18, H⟩ := Xiu H
         ·have c18b0 : (((rd_T55 l1 x6_2).f0) == ((rd_T55 l1 x5_1).f0)) = true := beq_iff_eq.mpr c18
          have c18b1 : (((rd_T55 l1 x6_2).f0) != ((rd_T55 l1 x5_1).f0)) = false := bne_eq_false_iff_eq.mpr c18
          clear c18
          obtain rfl := Option.some.inj H
          try go_wp2_with (fail)
          replace BK171 := Aside0.mk (blk_drew BK171.out)
          replace HB := Aside0.mk (below_drew1 HB.out)
          have p174 : 0 ≤ (x6_2 : Int) := of_decide_eq_true Xa
          have q174 : x6_2 < (l1.length : Int) := of_decide_eq_true Xa
          obtain ⟨ad174, e174, hx174_0, hx174_1, hx174_2⟩ := at_T55 HR1.out x6_2 p174 q174
          have hw174_2 := hx174_2
          have hw174_1 := hx174_1
          have hw174_0 := hx174_0
          obtain rfl : ad172 = ad174 := (by injection e174)
          replace hx174_0 := Xm HB hx174_0
          replace hx174_1 := Xm HB hx174_1
          replace hx174_2 := Xm HB hx174_2
          replace p174 := eq_true p174
          replace q174 := eq_true q174
          have p175 : 0 ≤ (x5_1 : Int) := of_decide_eq_true Xa
          have q175 : x5_1 < (l1.length : Int) := of_decide_eq_true Xa
          obtain ⟨ad175, e175, hx175_0, hx175_1, hx175_2⟩ := at_T55 HR1.out x5_1 p175 q175
          have hw175_2 := hx175_2
          have hw175_1 := hx175_1
          have hw175_0 := hx175_0
          obtain rfl : ad172 = ad175 := (by injection e175)
          replace hx175_0 := Xm HB hx175_0
          replace hx175_1 := Xm HB hx175_1
          replace hx175_2 := Xm HB hx175_2
          replace p175 := eq_true p175
          replace q175 := eq_true q175
          refine start_ (n := 11) (S := fun w' => w'.cell? (ad172.add ((x6_2).toNat * 3)) = some (.int .i64 ((rd_T55 l1 x6_2).f0)) ∧ w'.cell? ⟨(ad172.add ((x6_2).toNat * 3)).block, (ad172.add ((x6_2).toNat * 3)).off + 1, none⟩ = some (.int .i64 ((rd_T55 l1 x6_2).f1)) ∧ w'.cell? ⟨(ad172.add ((x6_2).toNat * 3)).block, (ad172.add ((x6_2).toNat * 3)).off + 2, none⟩ = some (.int .i64 ((rd_T55 l1 x6_2).f2)) ∧ w'.cell? (ad172.add ((x5_1).toNat * 3)) = some (.int .i64 ((rd_T55 l1 x5_1).f0)) ∧ w'.cell? ⟨(ad172.add ((x5_1).toNat * 3)).block, (ad172.add ((x5_1).toNat * 3)).off + 1, none⟩ = some (.int .i64 ((rd_T55 l1 x5_1).f1)) ∧ w'.cell? ⟨(ad172.add ((x5_1).toNat * 3)).block, (ad172.add ((x5_1).toNat * 3)).off + 2, none⟩ = some (.int .i64 ((rd_T55 l1 x5_1).f2))) (ds := []) #[false, false, false, false, false, false, false, false, false, false, false] (by kernel_rfl) rfl rfl ⟨Xn hw174_0, Xn hw174_1, Xn hw174_2, Xn hw175_0, Xn hw175_1, Xn hw175_2⟩ (fun hHeld => ?_); refine with_tabW spec_l08Waits.tab11 spec_l08Waits.bits11 (fun HT_ HW_ => ?_)
          generalize wr.drew = w19 at BK171 HB hx174_0 hx174_1 hx174_2 hx175_0 hx175_1 hx175_2 hHeld ⊢
          refine Xpu 0 28 (XW.bs 11 1) HT_.out ?_
          refine Xpu 1 29 (XW.bs 11 3) HT_.out ?_
          refine Xpu 2 30 (XW.bs 11 7) HT_.out ?_
          refine Xpu 3 31 (XW.bs 11 15) HT_.out ?_
          refine Xpu 5 33 (XW.bs 11 47) HT_.out ?_
          refine Xpu 6 34 (XW.bs 11 111) HT_.out ?_
          refine Xpu 7 35 (XW.bs 11 239) HT_.out ?_
          refine Xpu 8 36 (XW.bs 11 495) HT_.out ?_
          refine Xta 4 32 (XW.bs 11 511) HT_.out HW_.out hHeld ?_
          refine Xta 9 37 (XW.bs 11 1023) HT_.out HW_.out hHeld ?_
          refine Xpu 10 38 (XW.bs 11 2047) HT_.out ?_
          refine done_ (done_of HT_.out (by kernel_rfl)) ?_
          try go_wp2_with (fail)
          go_ret
          exact ⟨Xe, Xi⟩
         ·have c18b0 : (((rd_T55 l1 x6_2).f0) == ((rd_T55 l1 x5_1).f0)) = false := beq_eq_false_iff_ne.mpr c18
          have c18b1 : (((rd_T55 l1 x6_2).f0) != ((rd_T55 l1 x5_1).f0)) = true := bne_iff_ne.mpr c18
          have H' := Aside0.mk H
          clear H
          try go_wp2_with (fail)
          replace BK171 := Aside0.mk (blk_drew BK171.out)
          replace HB := Aside0.mk (below_drew1 HB.out)
          have p174 : 0 ≤ (x6_2 : Int) := of_decide_eq_true Xa
          have q174 : x6_2 < (l1.length : Int) := of_decide_eq_true Xa
          obtain ⟨ad174, e174, hx174_0, hx174_1, hx174_2⟩ := at_T55 HR1.out x6_2 p174 q174
          have hw174_2 := hx174_2
          have hw174_1 := hx174_1
          have hw174_0 := hx174_0
          obtain rfl : ad172 = ad174 := (by injection e174)
          replace hx174_0 := Xm HB hx174_0
          replace hx174_1 := Xm HB hx174_1
          replace hx174_2 := Xm HB hx174_2
          replace p174 := eq_true p174
          replace q174 := eq_true q174
          have p175 : 0 ≤ (x5_1 : Int) := of_decide_eq_true Xa
          have q175 : x5_1 < (l1.length : Int) := of_decide_eq_true Xa
          obtain ⟨ad175, e175, hx175_0, hx175_1, hx175_2⟩ := at_T55 HR1.out x5_1 p175 q175
          have hw175_2 := hx175_2
          have hw175_1 := hx175_1
          have hw175_0 := hx175_0
          obtain rfl : ad172 = ad175 := (by injection e175)
          replace hx175_0 := Xm HB hx175_0
          replace hx175_1 := Xm HB hx175_1
          replace hx175_2 := Xm HB hx175_2
          replace p175 := eq_true p175
          replace q175 := eq_true q175
          refine start_ (n := 11) (S := fun w' => w'.cell? (ad172.add ((x6_2).toNat * 3)) = some (.int .i64 ((rd_T55 l1 x6_2).f0)) ∧ w'.cell? ⟨(ad172.add ((x6_2).toNat * 3)).block, (ad172.add ((x6_2).toNat * 3)).off + 1, none⟩ = some (.int .i64 ((rd_T55 l1 x6_2).f1)) ∧ w'.cell? ⟨(ad172.add ((x6_2).toNat * 3)).block, (ad172.add ((x6_2).toNat * 3)).off + 2, none⟩ = some (.int .i64 ((rd_T55 l1 x6_2).f2)) ∧ w'.cell? (ad172.add ((x5_1).toNat * 3)) = some (.int .i64 ((rd_T55 l1 x5_1).f0)) ∧ w'.cell? ⟨(ad172.add ((x5_1).toNat * 3)).block, (ad172.add ((x5_1).toNat * 3)).off + 1, none⟩ = some (.int .i64 ((rd_T55 l1 x5_1).f1)) ∧ w'.cell? ⟨(ad172.add ((x5_1).toNat * 3)).block, (ad172.add ((x5_1).toNat * 3)).off + 2, none⟩ = some (.int .i64 ((rd_T55 l1 x5_1).f2))) (ds := []) #[false, false, false, false, false, false, false, false, false, false, false] (by kernel_rfl) rfl rfl ⟨Xn hw174_0, Xn hw174_1, Xn hw174_2, Xn hw175_0, Xn hw175_1, Xn hw175_2⟩ (fun hHeld => ?_); refine with_tabW spec_l08Waits.tab11 spec_l08Waits.bits11 (fun HT_ HW_ => ?_)
          generalize wr.drew = w20 at BK171 HB hx174_0 hx174_1 hx174_2 hx175_0 hx175_1 hx175_2 hHeld ⊢
          refine Xpu 0 28 (XW.bs 11 1) HT_.out ?_
          refine Xpu 1 29 (XW.bs 11 3) HT_.out ?_
          refine Xpu 2 30 (XW.bs 11 7) HT_.out ?_
          refine Xpu 3 31 (XW.bs 11 15) HT_.out ?_
          refine Xpu 5 33 (XW.bs 11 47) HT_.out ?_
          refine Xpu 6 34 (XW.bs 11 111) HT_.out ?_
          refine Xpu 7 35 (XW.bs 11 239) HT_.out ?_
          refine Xpu 8 36 (XW.bs 11 495) HT_.out ?_
          refine Xta 4 32 (XW.bs 11 511) HT_.out HW_.out hHeld ?_
          refine Xta 9 37 (XW.bs 11 1023) HT_.out HW_.out hHeld ?_
          refine Xpu 10 38 (XW.bs 11 2047) HT_.out ?_
          refine done_ (done_of HT_.out (by kernel_rfl)) ?_
          try go_wp2_with (fail)
          go_roundg k2
          case measure => have := HK1.out; have := HK2.out; omega
          case rel => exact ⟨(wrap64 (x6_2 + 1)), Xr, H', ⟨by have := HK1.out; have := HK2.out; omega⟩, BK171, ⟨Xi⟩⟩
        ·(first | rw [c13b0] | (simp only [i64_w, i32_w]; rw [c13b0]) | skip)
         have H' := Aside0.mk H
         clear H
         go_wp2
         go_roundg k2
         case measure => have := HK1.out; have := HK2.out; omega
         case rel => exact ⟨(wrap64 (x5_1 + 1)), Xr, H', ⟨by have := HK1.out; have := HK2.out; omega⟩, BK171, ⟨Xi⟩⟩
     ·replace c12 := Bool.eq_false_iff.mpr c12
      subst c12
      (first | rw [if_neg (show ¬ (false = true) by decide)] at H | skip)
      obtain rfl := Option.some.inj H
      go_wp2
      go_ret
      exact ⟨Xe, Xi⟩
    ·obtain rfl := Option.some.inj H
     go_wp2
     go_ret
     exact ⟨Xe, Xi⟩

/-! ### spec_TableOK: function 12 -/
def spec_TableOK.f (k : Nat) (a0_0 : Int) (a0_1 : Int) (l0_2 : List (S92)) (l1_0 : List (S55)) (l1_1 : List (S55)) : Option (Bool) := (spec_HoldsOK.f k a0_0 a0_1 l0_2 l1_0).bind fun t178 => (if t178 = true then ((spec_l08Waits.f k a0_0 a0_1 l0_2 l1_1).bind fun t179 => (some t179)) else (some false))
set_option maxHeartbeats 8000000 in
set_option maxRecDepth 100000 in
theorem spec_TableOK.calls (k : Nat) (a0_0 : Int) (a0_1 : Int) (A0_2 : Option Addr) (c0_2 : Nat) (l0_2 : List (S92)) (A1_0 : Option Addr) (c1_0 : Nat) (l1_0 : List (S55)) (A1_1 : Option Addr) (c1_1 : Nat) (l1_1 : List (S55)) (r : Bool) (w : World) (hr0_2 : Kd.C k92 w A0_2 l0_2.length l0_2) (hc0_2 : l0_2.length ≤ c0_2) (hr1_0 : Kd.C k55 w A1_0 l1_0.length l1_0) (hc1_0 : l1_0.length ≤ c1_0) (hr1_1 : Kd.C k55 w A1_1 l1_1.length l1_1) (hc1_1 : l1_1.length ≤ c1_1) (h : spec_TableOK.f k a0_0 a0_1 l0_2 l1_0 l1_1 = some r) :
  Calls Try.prog 12 #[.agg #[.int .i64 a0_0, .int .i64 a0_1, .slice A0_2 l0_2.length c0_2], .agg #[.slice A1_0 l1_0.length c1_0, .slice A1_1 l1_1.length c1_1]] w fun e w' => e = .returned (.bool r) ∧ Below w.heap.size w w' := by
 have hu33 := Try.underlying33
 have hu37 := Try.underlying37
 have HR0_2 := Aside0.mk hr0_2
 have HC0_2 := Aside0.mk hc0_2
 clear hr0_2 hc0_2
 have HR1_0 := Aside0.mk hr1_0
 have HC1_0 := Aside0.mk hc1_0
 clear hr1_0 hc1_0
 have HR1_1 := Aside0.mk hr1_1
 have HC1_1 := Aside0.mk hc1_1
 clear hr1_1 hc1_1
 have HB := Aside0.mk (Below.refl w.heap.size w)
 have H : ((spec_HoldsOK.f k a0_0 a0_1 l0_2 l1_0).bind fun t178 => (if t178 = true then ((spec_l08Waits.f k a0_0 a0_1 l0_2 l1_1).bind fun t179 => (some t179)) else (some false))) = some r := h
 clear h
 have HC3 := Aside0.mk H
 clear H
 go_enter Try.func12, Try.ntmps12
 go_upto_region 1 with (first | ((with_reducible refine gate_dst (N := 2) rfl ?_); refine Xbox 2 #[.int .i64 a0_0, .int .i64 a0_1, .slice A0_2 l0_2.length c0_2] 33 ?_; intro gb176 hg w4 hbox hb; have BK176 := Aside0.mk (hbox); have GE176 := Xge hg Xi; replace HB := Aside0.mk (below_step Xi hb); clear hb hbox hg) | ((with_reducible refine gate_dst (N := 3) rfl ?_); refine Xbox 3 #[.slice A1_0 l1_0.length c1_0, .slice A1_1 l1_1.length c1_1] 37 ?_; intro gb177 hg w5 hbox hb; have BK177 := Aside0.mk (hbox); have GE177 := Xge hg Xi; replace HB := Aside0.mk (below_step Xi hb); have NB176_177 := Xnb hg BK176; have NB177_176 := Xns NB176_177; replace BK176 := Xbb BK176 hb; clear hb hbox hg))
 have H := HC3.out
 clear HC3
 obtain ⟨t178, A6, H⟩ := Xbi H
 (try dsimp only at H)
 by_cases c7 : t178 = true
 ·subst c7
  (first | rw [if_pos rfl] at H | skip)
  obtain ⟨t179, A8, H⟩ := Xbi H
  (try dsimp only at H)
  obtain rfl := Option.some.inj H
  have hnb9 := NB176_177.out
  have hnc9 := NB177_176.out
  obtain ⟨hcz10_0, hcz10_1, hcz10_2⟩ := Xc3 BK176
  obtain ⟨hcz11_0, hcz11_1⟩ := Xc2 BK177
  go_wp2_with (first | ((with_reducible refine gate_callee (f := 39) rfl ?_); refine Xgo 8 Try.func39 #[.agg #[.int .i64 a0_0, .int .i64 a0_1, .slice A0_2 l0_2.length c0_2], .slice A1_0 l1_0.length c1_0] ?_; (with_reducible refine (spec_HoldsOK.calls k a0_0 a0_1 _ _ l0_2 _ _ l1_0 true _ ?side1 ?side2 ?side3 ?side4 A6.out).mono ?_); (case side1 => exact Xc HR0_2); (case side2 => exact HC0_2.out); (case side3 => exact Xc HR1_0); (case side4 => exact HC1_0.out); rintro e w12 ⟨rfl, hb⟩; refine ⟨_, rfl, ?_⟩; replace BK176 := Xbb BK176 hb; replace BK177 := Xbb BK177 hb; replace HB := Aside0.mk (below_step Xi hb); clear hb; obtain ⟨hcz13_0, hcz13_1, hcz13_2⟩ := Xc3 BK176; obtain ⟨hcz14_0, hcz14_1⟩ := Xc2 BK177) | (go_at_call 40; (with_reducible refine (spec_l08Waits.calls k a0_0 a0_1 _ _ l0_2 _ _ l1_1 t179 _ ?side1 ?side2 ?side3 ?side4 A8.out).mono ?_); (case side1 => exact Xc HR0_2); (case side2 => exact HC0_2.out); (case side3 => exact Xc HR1_1); (case side4 => exact HC1_1.out); rintro e w15 ⟨rfl, hb⟩; replace BK176 := Xbb BK176 hb; replace BK177 := Xbb BK177 hb; replace HB := Aside0.mk (below_step Xi hb); clear hb))
  go_ret
  exact ⟨Xe, Xi⟩
 ·replace c7 := Bool.eq_false_iff.mpr c7
  subst c7
  (first | rw [if_neg (show ¬ (false = true) by decide)] at H | skip)
  obtain rfl := Option.some.inj H
  have hnb16 := NB176_177.out
  have hnc16 := NB177_176.out
  obtain ⟨hcz17_0, hcz17_1, hcz17_2⟩ := Xc3 BK176
  obtain ⟨hcz18_0, hcz18_1⟩ := Xc2 BK177
  go_wp2_with (first | ((with_reducible refine gate_callee (f := 39) rfl ?_); refine Xgo 8 Try.func39 #[.agg #[.int .i64 a0_0, .int .i64 a0_1, .slice A0_2 l0_2.length c0_2], .slice A1_0 l1_0.length c1_0] ?_; (with_reducible refine (spec_HoldsOK.calls k a0_0 a0_1 _ _ l0_2 _ _ l1_0 false _ ?side1 ?side2 ?side3 ?side4 A6.out).mono ?_); (case side1 => exact Xc HR0_2); (case side2 => exact HC0_2.out); (case side3 => exact Xc HR1_0); (case side4 => exact HC1_0.out); rintro e w19 ⟨rfl, hb⟩; refine ⟨_, rfl, ?_⟩; replace BK176 := Xbb BK176 hb; replace BK177 := Xbb BK177 hb; replace HB := Aside0.mk (below_step Xi hb); clear hb))
  go_ret
  exact ⟨Xe, Xi⟩

end Go.Proofs.Ytnanfenogmpemaa.XA
