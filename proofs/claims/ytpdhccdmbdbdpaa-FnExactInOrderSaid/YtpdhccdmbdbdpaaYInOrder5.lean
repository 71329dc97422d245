/- Contracts of the program's functions: each Go function that is named below comes to what its Lean function says. Written by xprint.py (a program of this session's, over the kit's print). Conditions: each contract's own premises. -/
import Derived.Test.YtpdhccdmbdbdpaaYInOrder0
import Derived.Test.YtpdhccdmbdbdpaaYInOrder3
import Derived.Test.YtpdhccdmbdbdpaaYInOrder4
namespace Go.Proofs.Ytpdhccdmbdbdpaa.XA
open Go.RowKit Go.Proofs.YtpdhccdmbdbdpaaW.PrintWords Go.Proofs.YtpdhccdmbdbdpaaW.PrintLast Go.Proofs.YtpdhccdmbdbdpaaW.PrintMore XW
attribute [local go_sem] max2_int min2_int max_two min_two max_three min_three max_four min_four   -- for this text's walks alone
set_option linter.unusedVariables false
set_option linter.unusedSimpArgs false

/-! ### impl_nodeCode: function 58 -/
def impl_nodeCode.f (k : Nat) (a0_0 : Int) (a0_1 : Int) (l0_2 : List (S43)) (a1 : Int) : Option (Int) := (impl_DocOK.f k a0_0 a0_1 l0_2).bind fun t193 => (if t193 = true then ((impl_Doc_has.f k a0_0 a0_1 l0_2 a1).bind fun t194 => (if t194 = true then (some 0) else (some 5))) else (some 1))
set_option maxHeartbeats 8000000 in
set_option maxRecDepth 100000 in
theorem impl_nodeCode.calls (k : Nat) (a0_0 : Int) (a0_1 : Int) (A0_2 : Option Addr) (c0_2 : Nat) (l0_2 : List (S43)) (a1 : Int) (r : Int) (w : World) (hr0_2 : Kd.C k43 w A0_2 l0_2.length l0_2) (hc0_2 : l0_2.length ≤ c0_2) (h : impl_nodeCode.f k a0_0 a0_1 l0_2 a1 = some r) :
  Calls Try.prog 58 #[.agg #[.int .i64 a0_0, .int .i64 a0_1, .slice A0_2 l0_2.length c0_2], .int .i64 a1] w fun e w' => e = .returned (.int .i64 r) ∧ Below w.heap.size w w' := by
 have hu29 := Try.underlying29
 have HR0_2 := Aside0.mk hr0_2
 have HC0_2 := Aside0.mk hc0_2
 clear hr0_2 hc0_2
 have HB := Aside0.mk (Below.refl w.heap.size w)
 have H : ((impl_DocOK.f k a0_0 a0_1 l0_2).bind fun t193 => (if t193 = true then ((impl_Doc_has.f k a0_0 a0_1 l0_2 a1).bind fun t194 => (if t194 = true then (some 0) else (some 5))) else (some 1))) = some r := h
 clear h
 obtain ⟨t193, A3, H⟩ := Xbi H
 (try dsimp only at H)
 have HC4 := Aside0.mk H
 clear H
 go_enter Try.func58, Try.ntmps58
 go_upto_if 5 with (first | ((with_reducible refine gate_dst (N := 2) rfl ?_); refine Xbox 2 #[.int .i64 a0_0, .int .i64 a0_1, .slice A0_2 l0_2.length c0_2] 29 ?_; intro gb192 hg w5 hbox hb; have BK192 := Aside0.mk (hbox); have GE192 := Xge hg Xi; replace HB := Aside0.mk (below_step Xi hb); clear hb hbox hg; obtain ⟨hcz6_0, hcz6_1, hcz6_2⟩ := Xc3 BK192) | ((with_reducible refine gate_callee (f := 24) rfl ?_); refine Xgo 7 Try.func24 #[.agg #[.int .i64 a0_0, .int .i64 a0_1, .slice A0_2 l0_2.length c0_2]] ?_; (with_reducible refine (impl_DocOK.calls k a0_0 a0_1 _ _ l0_2 t193 _ ?side1 ?side2 A3.out).mono ?_); (case side1 => exact Xc HR0_2); (case side2 => exact HC0_2.out); rintro e w7 ⟨rfl, hb⟩; refine ⟨_, rfl, ?_⟩; replace BK192 := Xbb BK192 hb; replace HB := Aside0.mk (below_step Xi hb); clear hb))
 have H := HC4.out
 clear HC4
 by_cases c8 : t193 = true
 ·subst c8
  (first | rw [if_pos rfl] at H | skip)
  obtain ⟨t194, A9, H⟩ := Xbi H
  (try dsimp only at H)
  have HC10 := Aside0.mk H
  clear H
  go_upto_if 9 with (first | ((with_reducible refine gate_callee (f := 67) rfl ?_); refine Xgo 11 Try.func67 #[.pointer (some ⟨gb192, 0, none⟩), .int .i64 a1] ?_; (with_reducible refine (impl_Doc_has.calls k gb192 a0_0 a0_1 A0_2 c0_2 l0_2 a1 t194 _ ?side1 ?side2 ?side3 A9.out).mono ?_); (case side1 => exact BK192.out); (case side2 => exact Xc HR0_2); (case side3 => exact HC0_2.out); rintro e w11 ⟨rfl, hb⟩; refine ⟨_, rfl, ?_⟩; replace BK192 := Xbb BK192 hb; replace HB := Aside0.mk (below_step Xi hb); clear hb))
  have H := HC10.out
  clear HC10
  by_cases c12 : t194 = true
  ·subst c12
   (first | rw [if_pos rfl] at H | skip)
   obtain rfl := Option.some.inj H
   go_wp2
   go_ret
   exact ⟨Xe, Xi⟩
  ·replace c12 := Bool.eq_false_iff.mpr c12
   subst c12
   (first | rw [if_neg (show ¬ (false = true) by decide)] at H | skip)
   obtain rfl := Option.some.inj H
   go_wp2
   go_ret
   exact ⟨Xe, Xi⟩
 ·replace c8 := Bool.eq_false_iff.mpr c8
  subst c8
  (first | rw [if_neg (show ¬ (false = true) by decide)] at H | skip)
  obtain rfl := Option.some.inj H
  go_wp2
  go_ret
  exact ⟨Xe, Xi⟩

/-! ### impl_InOrder: function 21 -/
def impl_InOrder.f (k : Nat) (a0_0 : Int) (a0_1 : Int) (l0_2 : List (S43)) (a1 : Int) : Option (List Int × Int) := (impl_nodeCode.f k a0_0 a0_1 l0_2 a1).bind fun t196 => (if t196 = 0 then ((impl_Doc_order.f k a0_0 a0_1 l0_2 ([] : List Int) a1).bind fun t197 => (some (t197, 0))) else (some (([] : List Int), t196)))
set_option maxHeartbeats 8000000 in
set_option maxRecDepth 100000 in
theorem impl_InOrder.calls (k : Nat) (a0_0 : Int) (a0_1 : Int) (A0_2 : Option Addr) (c0_2 : Nat) (l0_2 : List (S43)) (a1 : Int) (r1 : List Int) (r2 : Int) (w : World) (hr0_2 : Kd.C k43 w A0_2 l0_2.length l0_2) (hc0_2 : l0_2.length ≤ c0_2) (h : impl_InOrder.f k a0_0 a0_1 l0_2 a1 = some (r1, r2)) :
  Calls Try.prog 21 #[.agg #[.int .i64 a0_0, .int .i64 a0_1, .slice A0_2 l0_2.length c0_2], .int .i64 a1] w fun e w' => ∃ v0_ : Value, e = .returned (.tuple #[v0_, .int .i64 r2]) ∧ Kd.R (Kd.int .i64) 3 w' w.heap.size (fun _ => True) v0_ r1 ∧ Below w.heap.size w w' := by
 have hu29 := Try.underlying29
 have HR0_2 := Aside0.mk hr0_2
 have HC0_2 := Aside0.mk hc0_2
 clear hr0_2 hc0_2
 have HB := Aside0.mk (Below.refl w.heap.size w)
 have H : ((impl_nodeCode.f k a0_0 a0_1 l0_2 a1).bind fun t196 => (if t196 = 0 then ((impl_Doc_order.f k a0_0 a0_1 l0_2 ([] : List Int) a1).bind fun t197 => (some (t197, 0))) else (some (([] : List Int), t196)))) = some (r1, r2) := h
 clear h
 obtain ⟨t196, A3, H⟩ := Xbi H
 (try dsimp only at H)
 have HC4 := Aside0.mk H
 clear H
 go_enter Try.func21, Try.ntmps21
 go_upto_if 11 with (first | ((with_reducible refine gate_dst (N := 2) rfl ?_); refine Xbox 2 #[.int .i64 a0_0, .int .i64 a0_1, .slice A0_2 l0_2.length c0_2] 29 ?_; intro gb195 hg w5 hbox hb; have BK195 := Aside0.mk (hbox); have GE195 := Xge hg Xi; replace HB := Aside0.mk (below_step Xi hb); clear hb hbox hg; obtain ⟨hcz6_0, hcz6_1, hcz6_2⟩ := Xc3 BK195) | ((with_reducible refine gate_callee (f := 58) rfl ?_); refine Xgo 9 Try.func58 #[.agg #[.int .i64 a0_0, .int .i64 a0_1, .slice A0_2 l0_2.length c0_2], .int .i64 a1] ?_; (with_reducible refine (impl_nodeCode.calls k a0_0 a0_1 _ _ l0_2 a1 t196 _ ?side1 ?side2 A3.out).mono ?_); (case side1 => exact Xc HR0_2); (case side2 => exact HC0_2.out); rintro e w7 ⟨rfl, hb⟩; refine ⟨_, rfl, ?_⟩; replace BK195 := Xbb BK195 hb; replace HB := Aside0.mk (below_step Xi hb); clear hb))
 have H := HC4.out
 clear HC4
 obtain ⟨c8, H⟩ | ⟨c8, H⟩ := Xiu H
 ·have c8b0 : (t196 == 0) = true := beq_iff_eq.mpr c8
  have c8b1 : (t196 != 0) = false := bne_eq_false_iff_eq.mpr c8
  clear c8
  (first | rw [c8b0] | (simp only [i64_w, i32_w]; rw [c8b0]) | skip)
  obtain ⟨t197, A9, H⟩ := Xbi H
  (try dsimp only at H)
  simp only [Option.some.injEq, Prod.mk.injEq] at H
  obtain ⟨rfl, rfl⟩ := H
  go_wp2_with (first | ((with_reducible refine gate_callee (f := 64) rfl ?_); refine Xgo 14 Try.func64 #[.pointer (some ⟨gb195, 0, none⟩), .slice none 0 0, .int .i64 a1] ?_; (refine (impl_Doc_order.calls k gb195 a0_0 a0_1 A0_2 c0_2 l0_2 (fun k_ => some k_ = (.slice none 0 0 : Value).ownBlock) (.slice none 0 0) ([] : List Int) a1 t197 w _ ?side1 ?side2 ?side3 ?side4 ?side5 A9.out).mono ?_); (case side1 => exact Xi); (case side2 => exact BK195.out); (case side3 => exact Kd.C_kept_came k43_heap HR0_2.out Xi (fun k_ hs_ => (fun e_ => by simp [Value.ownBlock] at e_) hs_)); (case side4 => exact HC0_2.out); (case side5 => exact Kd.R_nil _ _ _ _ _); rintro e w10 ⟨v198, rfl, ho0, hb, hkp⟩; refine ⟨_, rfl, ?_⟩; replace BK195 := Aside0.mk (blk_kept BK195.out hkp (fun hs_ => (fun e_ => by simp [Value.ownBlock] at e_) hs_)); have HO199 := Aside0.mk (Kd.R_mono (ok' := fun k_ => True) ho0 (fun k_ hk_ => trivial)); replace HB := Aside0.mk (hb); (try clear hb); (try clear hkp); (try clear ho0)))
  go_ret2
  exact ⟨_, Xe, Xq HO199, Xi⟩
 ·have c8b0 : (t196 == 0) = false := beq_eq_false_iff_ne.mpr c8
  have c8b1 : (t196 != 0) = true := bne_iff_ne.mpr c8
  (first | rw [c8b0] | (simp only [i64_w, i32_w]; rw [c8b0]) | skip)
  simp only [Option.some.injEq, Prod.mk.injEq] at H
  obtain ⟨rfl, rfl⟩ := H
  go_wp2
  go_ret2
  exact ⟨_, Xe, by first | exact Kd.R_nil _ _ _ _ _ | exact Kd.N_nil _ _ _ _ _ | exact Kd.V_nil _ _ _ _ _ | exact Kd.Q_nil _ _ _ _ _ | exact Kd.S_nil _ _ _ _ _, Xi⟩

/-! ### spec_l01In: function 84 -/
def spec_l01In.f (a0 : Int) (a1 : Int) (a2 : Int) : Option (Bool) := if a0 ≥ a1 then (some (decide (a0 ≤ a2))) else (some false)
set_option maxHeartbeats 8000000 in
set_option maxRecDepth 100000 in
theorem spec_l01In.calls (a0 : Int) (a1 : Int) (a2 : Int) (r : Bool) (w : World) (h : spec_l01In.f a0 a1 a2 = some r) :
  Calls Try.prog 84 #[.int .i64 a0, .int .i64 a1, .int .i64 a2] w fun e w' => e = .returned (.bool r) ∧ Drawn0 w w' := by
 have H : (if a0 ≥ a1 then (some (decide (a0 ≤ a2))) else (some false)) = some r := h
 clear h
 obtain ⟨c4, H⟩ | ⟨c4, H⟩ := Xiu H
 ·have c4b0 : decide (a1 ≤ a0) = true := decide_eq_true c4
  clear c4
  obtain rfl := Option.some.inj H
  go_enter Try.func84, Try.ntmps84
  go_wp2
  go_ret
  exact ⟨Xr, Xdr⟩
 ·have c4b0 : decide (a1 ≤ a0) = false := decide_eq_false c4
  clear c4
  obtain rfl := Option.some.inj H
  go_enter Try.func84, Try.ntmps84
  go_wp2
  go_ret
  exact ⟨Xr, Xdr⟩

/-! ### spec_l02At: function 74 -/
def spec_l02At.l0 : Nat → Int → Int → Int → Int → List (S43) → Option (Int)
 | 0, _, _, _, _, _ => none
 | k + 1, x1, x5, x201000, x201001, x201002 => if x5 < (x201002.length : Int) then (if 0 ≤ x5 then (if ((rd_T43 x201002 x5).f0) = x1 then (some x5) else (spec_l02At.l0 k x1 (wrap64 (x5 + 1)) x201000 x201001 x201002)) else (none)) else (some (-1))
def spec_l02At.f (k : Nat) (a0_0 : Int) (a0_1 : Int) (l0_2 : List (S43)) (a1 : Int) : Option (Int) := spec_l02At.l0 k a1 0 a0_0 a0_1 l0_2
set_option maxHeartbeats 8000000 in
set_option maxRecDepth 100000 in
theorem spec_l02At.calls (k : Nat) (a0_0 : Int) (a0_1 : Int) (A0_2 : Option Addr) (c0_2 : Nat) (l0_2 : List (S43)) (a1 : Int) (r : Int) (w : World) (hr0_2 : Kd.C k43 w A0_2 l0_2.length l0_2) (hc0_2 : l0_2.length ≤ c0_2) (h : spec_l02At.f k a0_0 a0_1 l0_2 a1 = some r) :
  Calls Try.prog 74 #[.agg #[.int .i64 a0_0, .int .i64 a0_1, .slice A0_2 l0_2.length c0_2], .int .i64 a1] w fun e w' => e = .returned (.int .i64 r) ∧ Below w.heap.size w w' := by
 have hu29 := Try.underlying29
 have HR0_2 := Aside0.mk hr0_2
 have HC0_2 := Aside0.mk hc0_2
 clear hr0_2 hc0_2
 have HB := Aside0.mk (Below.refl w.heap.size w)
 have H : (spec_l02At.l0 k a1 0 a0_0 a0_1 l0_2) = some r := h
 clear h
 have H' := Aside0.mk H
 clear H
 go_enter Try.func74, Try.ntmps74
 go_wp2_with (first | ((with_reducible refine gate_dst (N := 2) rfl ?_); refine Xbox 2 #[.int .i64 a0_0, .int .i64 a0_1, .slice A0_2 l0_2.length c0_2] 29 ?_; intro gb200 hg w3 hbox hb; have BK200 := Aside0.mk (hbox); have GE200 := Xge hg Xi; replace HB := Aside0.mk (below_step Xi hb); clear hb hbox hg))
 go_loopg [5] k (fun kq v5 w' => ∃ (x5_1 : Int), v5 = .int .i64 x5_1 ∧ Aside0 (spec_l02At.l0 kq a1 x5_1 a0_0 a0_1 l0_2 = some r) ∧ Aside0 (kq ≤ k) ∧ Aside0 (w'.heap[gb200]? = some (.cells #[.int .i64 a0_0, .int .i64 a0_1, (.slice A0_2 l0_2.length c0_2)] 29 (0, 0))) ∧ Aside0 (Below w.heap.size w w'))
 case atStart => exact ⟨(0), Xr, H', Xkr, BK200, ⟨Xi⟩⟩
 case round =>
  clear H'
  obtain ⟨x5_1, rfl, HA, HK1, BK200, HB⟩ := hrel
  cases gk with
  | zero => cases HA.out
  | succ k1 =>
   have H := HA.out
   clear HA
   simp only [spec_l02At.l0] at H
   obtain ⟨c4b0, H⟩ | ⟨c4b0, H⟩ := Xit H
   ·obtain ⟨c5b0, H⟩ := Xid H
    obtain ⟨c6, H⟩ | ⟨c6, H⟩ := Xiu H
    ·have c6b0 : (((rd_T43 l0_2 x5_1).f0) == a1) = true := beq_iff_eq.mpr c6
     have c6b1 : (((rd_T43 l0_2 x5_1).f0) != a1) = false := bne_eq_false_iff_eq.mpr c6
     clear c6
     obtain rfl := Option.some.inj H
     obtain ⟨hcz7_0, hcz7_1, hcz7_2⟩ := Xc3 BK200
     obtain ⟨ad201, A201_4, c201_4, e201, p201, q201, hx201_0, hx201_1, hx201_2, hx201_3, hx201_4, HC201_4, HR201_4⟩ := at_B43 HR0_2 x5_1 Xa Xa HB
     cases e201
     go_wp2
     go_ret
     exact ⟨Xe, Xi⟩
    ·have c6b0 : (((rd_T43 l0_2 x5_1).f0) == a1) = false := beq_eq_false_iff_ne.mpr c6
     have c6b1 : (((rd_T43 l0_2 x5_1).f0) != a1) = true := bne_iff_ne.mpr c6
     have H' := Aside0.mk H
     clear H
     obtain ⟨hcz8_0, hcz8_1, hcz8_2⟩ := Xc3 BK200
     obtain ⟨ad201, A201_4, c201_4, e201, p201, q201, hx201_0, hx201_1, hx201_2, hx201_3, hx201_4, HC201_4, HR201_4⟩ := at_B43 HR0_2 x5_1 Xa Xa HB
     cases e201
     go_wp2
     go_roundg k1
     case measure => have := HK1.out; omega
     case rel => exact ⟨(wrap64 (x5_1 + 1)), Xr, H', Xk1, BK200, ⟨Xi⟩⟩
   ·obtain rfl := Option.some.inj H
    obtain ⟨hcz9_0, hcz9_1, hcz9_2⟩ := Xc3 BK200
    go_wp2
    go_ret
    exact ⟨Xe, Xi⟩

/-! ### spec_l02Deep: function 96 -/
mutual
def spec_l02Deep.l0 : Nat → Int → Int → List Int → Int → Int → Int → List (S43) → Option (Int)
 | 0, _, _, _, _, _, _, _ => none
 | k + 1, x2, x7, x8, x9, x203000, x203001, x203002 => if x9 < (x8.length : Int) then (if 0 ≤ x9 then ((spec_l02Deep.f k x203000 x203001 x203002 (rd x8 x9) (wrap64 (x2 - 1))).bind fun t206 => (spec_l02Deep.l0 k x2 (mx x7 t206) x8 (wrap64 (x9 + 1)) x203000 x203001 x203002)) else (none)) else (some (wrap64 (x7 + 1)))
def spec_l02Deep.f : Nat → Int → Int → List (S43) → Int → Int → Option (Int)
 | 0, _, _, _, _, _ => none
 | k + 1, a0_0, a0_1, l0_2, a1, a2 => if a2 = 0 then (some 1) else ((spec_l02At.f k a0_0 a0_1 l0_2 a1).bind fun t203 => (if 0 ≤ t203 then (if t203 < (l0_2.length : Int) then (spec_l02Deep.l0 k a2 0 ((rd_T43 l0_2 t203).f4) 0 a0_0 a0_1 l0_2) else (none)) else (none)))
end
def spec_l02Deep.T4 : Bool × List (List Nat × List Nat) := (true, [([], []), ([0], [0]), ([], []), ([], []), ([2, 3], [2, 3]), ([1, 4], [1, 4]), ([5], [5]), ([6], [6]), ([7, 4, 0, 1, 2, 3, 4, 5, 6, 7], [7])])
def spec_l02Deep.B4 : List Nat := [0, 1, 0, 0, 12, 31, 63, 127, 255]
theorem spec_l02Deep.tab4 : rtab .any (opsOf Try.f96 4) = spec_l02Deep.T4 := by kernel_rfl
theorem spec_l02Deep.bits4 : waitsOk spec_l02Deep.T4.2 spec_l02Deep.B4 = true := by kernel_rfl
def spec_l02Deep.T8 : Bool × List (List Nat × List Nat) := (true, [([], []), ([], []), ([], []), ([], []), ([2, 3], [2, 3]), ([4], [4]), ([], []), ([6], [6]), ([1, 5, 7], [1, 5, 7]), ([0, 8], [0, 8]), ([9, 8, 0, 1, 2, 3, 4, 5, 6, 7, 8, 9], [0, 9])])
def spec_l02Deep.B8 : List Nat := [0, 0, 0, 0, 12, 28, 0, 64, 254, 511, 1023]
theorem spec_l02Deep.tab8 : rtab .any (opsOf Try.f96 8) = spec_l02Deep.T8 := by kernel_rfl
theorem spec_l02Deep.bits8 : waitsOk spec_l02Deep.T8.2 spec_l02Deep.B8 = true := by kernel_rfl
set_option maxHeartbeats 8000000 in
set_option maxRecDepth 100000 in
theorem spec_l02Deep.calls (k : Nat) : ∀ (a0_0 : Int) (a0_1 : Int) (A0_2 : Option Addr) (c0_2 : Nat) (l0_2 : List (S43)) (a1 : Int) (a2 : Int) (r : Int) (w : World) (hr0_2 : Kd.C k43 w A0_2 l0_2.length l0_2) (hc0_2 : l0_2.length ≤ c0_2) (h : spec_l02Deep.f k a0_0 a0_1 l0_2 a1 a2 = some r),
  Calls Try.prog 96 #[.agg #[.int .i64 a0_0, .int .i64 a0_1, .slice A0_2 l0_2.length c0_2], .int .i64 a1, .int .i64 a2] w fun e w' => e = .returned (.int .i64 r) ∧ Below w.heap.size w w' := by
 induction k using Nat.strongRecOn with
 | _ k ih =>
 intro a0_0 a0_1 A0_2 c0_2 l0_2 a1 a2 r w hr0_2 hc0_2 h
 cases k with
 | zero => exact absurd h (by simp [spec_l02Deep.f])
 | succ k =>
 simp only [spec_l02Deep.f] at h
 have hu29 := Try.underlying29
 have HR0_2 := Aside0.mk hr0_2
 have HC0_2 := Aside0.mk hc0_2
 clear hr0_2 hc0_2
 have HB := Aside0.mk (Below.refl w.heap.size w)
 have H : (if a2 = 0 then (some 1) else ((spec_l02At.f k a0_0 a0_1 l0_2 a1).bind fun t203 => (if 0 ≤ t203 then (if t203 < (l0_2.length : Int) then (spec_l02Deep.l0 k a2 0 ((rd_T43 l0_2 t203).f4) 0 a0_0 a0_1 l0_2) else (none)) else (none)))) = some r := h
 clear h
 have HC4 := Aside0.mk H
 clear H
 go_enter Try.func96, Try.ntmps96
 go_upto_if 11 with (first | ((with_reducible refine gate_dst (N := 3) rfl ?_); refine Xbox 3 #[.int .i64 a0_0, .int .i64 a0_1, .slice A0_2 l0_2.length c0_2] 29 ?_; intro gb202 hg w5 hbox hb; have BK202 := Aside0.mk (hbox); have GE202 := Xge hg Xi; replace HB := Aside0.mk (below_step Xi hb); clear hb hbox hg))
 have H := HC4.out
 clear HC4
 obtain ⟨c6, H⟩ | ⟨c6, H⟩ := Xiu H
 ·have c6b0 : (a2 == 0) = true := beq_iff_eq.mpr c6
  have c6b1 : (a2 != 0) = false := bne_eq_false_iff_eq.mpr c6
  clear c6
  (first | rw [c6b0] | (simp only [i64_w, i32_w]; rw [c6b0]) | skip)
  obtain rfl := Option.some.inj H
  go_wp2
  go_ret
  exact ⟨Xe, Xi⟩
 ·have c6b0 : (a2 == 0) = false := beq_eq_false_iff_ne.mpr c6
  have c6b1 : (a2 != 0) = true := bne_iff_ne.mpr c6
  (first | rw [c6b0] | (simp only [i64_w, i32_w]; rw [c6b0]) | skip)
  obtain ⟨t203, A7, H⟩ := Xbi H
  (try dsimp only at H)
  obtain ⟨c8, H⟩ | ⟨c8, H⟩ := Xiu H
  ·have c8b0 : decide (0 ≤ t203) = true := decide_eq_true c8
   clear c8
   obtain ⟨c9b0, H⟩ := Xid H
   have H' := Aside0.mk H
   clear H
   try go_wp2_with (fail)
   replace BK202 := Aside0.mk (blk_drew BK202.out)
   replace HB := Aside0.mk (below_drew1 HB.out)
   have p204 : 0 ≤ (t203 : Int) := of_decide_eq_true Xa
   have q204 : t203 < (l0_2.length : Int) := of_decide_eq_true Xa
   obtain ⟨ad204, A204_4, c204_4, e204, hx204_0, hx204_1, hx204_2, hx204_3, hx204_4, hl204_4, hi204_4⟩ := at_T43 HR0_2.out t203 p204 q204
   have hw204_4 := hx204_4
   have hw204_3 := hx204_3
   have hw204_2 := hx204_2
   have hw204_1 := hx204_1
   have hw204_0 := hx204_0
   cases e204
   replace hx204_0 := Xm HB hx204_0
   replace hx204_1 := Xm HB hx204_1
   replace hx204_2 := Xm HB hx204_2
   replace hx204_3 := Xm HB hx204_3
   replace hx204_4 := Xm HB hx204_4
   have HR204_4 := Aside0.mk hi204_4
   have HC204_4 := Aside0.mk hl204_4
   clear hi204_4 hl204_4
   replace p204 := eq_true p204
   replace q204 := eq_true q204
   refine start_ (n := 9) (S := fun w' => w'.cell? ⟨gb202, 0, none⟩ = some (.int .i64 a0_0) ∧ w'.cell? ⟨gb202, 1, none⟩ = some (.int .i64 a0_1) ∧ w'.cell? ⟨gb202, 2, none⟩ = some (.slice (some ad204) l0_2.length c0_2) ∧ w'.cell? (ad204.add ((t203).toNat * 5)) = some (.int .i64 ((rd_T43 l0_2 t203).f0)) ∧ w'.cell? ⟨(ad204.add ((t203).toNat * 5)).block, (ad204.add ((t203).toNat * 5)).off + 1, none⟩ = some (.int .i64 ((rd_T43 l0_2 t203).f1)) ∧ w'.cell? ⟨(ad204.add ((t203).toNat * 5)).block, (ad204.add ((t203).toNat * 5)).off + 2, none⟩ = some (.int .i64 ((rd_T43 l0_2 t203).f2)) ∧ w'.cell? ⟨(ad204.add ((t203).toNat * 5)).block, (ad204.add ((t203).toNat * 5)).off + 3, none⟩ = some (.string ((rd_T43 l0_2 t203).f3)) ∧ w'.cell? ⟨(ad204.add ((t203).toNat * 5)).block, (ad204.add ((t203).toNat * 5)).off + 4, none⟩ = some (.slice A204_4 ((rd_T43 l0_2 t203).f4).length c204_4)) (ds := []) #[false, false, false, false, false, false, false, false, false] (by kernel_rfl) rfl rfl ⟨(blk_cell BK202.out 0).trans rfl, (blk_cell BK202.out 1).trans rfl, (blk_cell BK202.out 2).trans rfl, Xn hw204_0, Xn hw204_1, Xn hw204_2, Xn hw204_3, Xn hw204_4⟩ (fun hHeld => ?_); refine with_tabW spec_l02Deep.tab4 spec_l02Deep.bits4 (fun HT_ HW_ => ?_)
   generalize w5.drew = w10 at BK202 HB HR204_4 hx204_0 hx204_1 hx204_2 hx204_3 hx204_4 hHeld ⊢
   refine Xpu 0 12 (XW.bs 9 1) HT_.out ?_
   refine Xpu 3 15 (XW.bs 9 9) HT_.out ?_
   refine Xta 1 13 (XW.bs 9 11) HT_.out HW_.out hHeld ?_
   refine Xta 2 14 (XW.bs 9 15) HT_.out HW_.out hHeld ?_
   refine one_ (i := 4) (N := some 16) (XW.bs 9 31) rfl rfl (one_of HT_.out (by kernel_rfl)) (by decide) (fun K hK => ?_)
   refine goes_ Try.func74 (by kernel_rfl) rfl #[.agg #[.int .i64 a0_0, .int .i64 a0_1, .slice (some ad204) l0_2.length c0_2], .int .i64 a1] (by rfl) rfl rfl (by (try simp only [List.map_toArray, List.map_cons, List.map_nil]); first | done | rfl | (simp only [List.length_drop, List.length_take]; rfl)) ?_
   with_reducible refine (spec_l02At.calls k a0_0 a0_1 _ _ l0_2 a1 t203 _ ?side1 ?side2 A7.out).mono ?_
   (case side1 => exact Xc HR0_2)
   (case side2 => exact HC0_2.out)
   rintro e w11 ⟨rfl, hb⟩
   refine ⟨_, rfl, ?_⟩
   replace BK202 := Xbb BK202 hb
   replace HB := Aside0.mk (below_step Xi hb)
   (try clear hb)
   (try clear hb2)
   (try clear hk)
   (try clear hi)
   refine hK.out _ _ ⟨(blk_cell BK202.out 0).trans rfl, (blk_cell BK202.out 1).trans rfl, (blk_cell BK202.out 2).trans rfl, Xn hw204_0, Xn hw204_1, Xn hw204_2, Xn hw204_3, Xn hw204_4⟩ (fun hHeld => ?_)
   clear hK K
   refine Xno ?_
   refine Xpu 5 17 (XW.bs 9 63) HT_.out ?_
   refine Xpu 6 18 (XW.bs 9 127) HT_.out ?_
   refine Xta 7 19 (XW.bs 9 255) HT_.out HW_.out hHeld ?_
   refine Xpu 8 8 (XW.bs 9 511) HT_.out ?_
   refine done_ (done_of HT_.out (by kernel_rfl)) ?_
   try go_wp2_with (fail)
   go_loopg [7, 9] k (fun kq v7 v9 w' => ∃ (x7_1 : Int) (x9_1 : Int), v7 = .int .i64 x7_1 ∧ v9 = .int .i64 x9_1 ∧ Aside0 (spec_l02Deep.l0 kq a2 x7_1 ((rd_T43 l0_2 t203).f4) x9_1 a0_0 a0_1 l0_2 = some r) ∧ Aside0 (kq ≤ k) ∧ Aside0 (w'.heap[gb202]? = some (.cells #[.int .i64 a0_0, .int .i64 a0_1, (.slice (some ad204) l0_2.length c0_2)] 29 (0, 0))) ∧ Aside0 (Below w.heap.size w w'))
   case atStart => exact ⟨(0), (0), Xr, Xr, H', Xkr, BK202, ⟨Xi⟩⟩
   case round =>
    clear H'
    (try clear c6); (try clear c6b0); (try clear c6b1); (try clear c8); (try clear c8b0); (try clear c9); (try clear c9b0); (try clear hx204_0); (try clear hx204_1); (try clear hx204_2); (try clear hx204_3); (try clear hx204_4); (try clear p204); (try clear q204)
    obtain ⟨x7_1, x9_1, rfl, rfl, HA, HK1, BK202, HB⟩ := hrel
    cases gk with
    | zero => cases HA.out
    | succ k1 =>
     have H := HA.out
     clear HA
     simp only [spec_l02Deep.l0] at H
     obtain ⟨c12b0, H⟩ | ⟨c12b0, H⟩ := Xit H
     ·obtain ⟨c13b0, H⟩ := Xid H
      obtain ⟨t206, A14, H⟩ := Xbi H
      (try dsimp only at H)
      obtain ⟨ji15, hji15⟩ : ∃ j_ : Int, (mx x7_1 t206) = j_ := ⟨_, rfl⟩
      replace H : (spec_l02Deep.l0 k1 a2 ji15 ((rd_T43 l0_2 t203).f4) (wrap64 (x9_1 + 1)) a0_0 a0_1 l0_2) = some r := by first | (rw [hji15] at H; exact H) | (simp only [hji15] at H ⊢; exact H)
      (try rw [hji15] at A14)
      have hji15_ : (if x7_1 < t206 then t206 else x7_1) = ji15 := hji15
      have H' := Aside0.mk H
      clear H
      try go_wp2_with (fail)
      replace BK202 := Aside0.mk (blk_drew BK202.out)
      replace HB := Aside0.mk (below_drew1 HB.out)
      have p205 : 0 ≤ (x9_1 : Int) := of_decide_eq_true Xa
      have q205 : x9_1 < (((rd_T43 l0_2 t203).f4).length : Int) := of_decide_eq_true Xa
      obtain ⟨ad205, e205, hx205_0⟩ := Kd.at_int HR204_4.out x9_1 p205 q205
      have hw205_0 := hx205_0
      cases e205
      replace hx205_0 := Xm HB hx205_0
      replace p205 := eq_true p205
      replace q205 := eq_true q205
      refine start_ (n := 11) (S := fun w' => w'.cell? ⟨gb202, 0, none⟩ = some (.int .i64 a0_0) ∧ w'.cell? ⟨gb202, 1, none⟩ = some (.int .i64 a0_1) ∧ w'.cell? ⟨gb202, 2, none⟩ = some (.slice (some ad204) l0_2.length c0_2) ∧ w'.cell? (ad205.add (x9_1).toNat) = some (.int .i64 (rd ((rd_T43 l0_2 t203).f4) x9_1))) (ds := []) #[false, false, false, false, false, false, false, false, false, false, false] (by kernel_rfl) rfl rfl ⟨(blk_cell BK202.out 0).trans rfl, (blk_cell BK202.out 1).trans rfl, (blk_cell BK202.out 2).trans rfl, Xn hw205_0⟩ (fun hHeld => ?_); refine with_tabW spec_l02Deep.tab8 spec_l02Deep.bits8 (fun HT_ HW_ => ?_)
      generalize wr.drew = w16 at BK202 HB hx205_0 hHeld ⊢
      refine Xpu 0 26 (XW.bs 11 1) HT_.out ?_
      refine Xpu 2 28 (XW.bs 11 5) HT_.out ?_
      refine Xpu 3 29 (XW.bs 11 13) HT_.out ?_
      refine Xpu 4 30 (XW.bs 11 29) HT_.out ?_
      refine Xpu 6 32 (XW.bs 11 93) HT_.out ?_
      refine Xpu 7 33 (XW.bs 11 221) HT_.out ?_
      refine Xta 1 27 (XW.bs 11 223) HT_.out HW_.out hHeld ?_
      refine Xta 5 31 (XW.bs 11 255) HT_.out HW_.out hHeld ?_
      refine one_ (i := 8) (N := some 34) (XW.bs 11 511) rfl rfl (one_of HT_.out (by kernel_rfl)) (by decide) (fun K hK => ?_)
      refine goes_ Try.func96 (by kernel_rfl) rfl #[.agg #[.int .i64 a0_0, .int .i64 a0_1, .slice (some ad204) l0_2.length c0_2], .int .i64 (rd ((rd_T43 l0_2 t203).f4) x9_1), .int .i64 (wrap64 (a2 - 1))] (by rfl) rfl rfl (by (try simp only [List.map_toArray, List.map_cons, List.map_nil]); first | done | rfl | (simp only [List.length_drop, List.length_take]; rfl)) ?_
      with_reducible refine (ih k1 (by have := HK1.out; omega) a0_0 a0_1 _ _ l0_2 (rd ((rd_T43 l0_2 t203).f4) x9_1) (wrap64 (a2 - 1)) t206 _ ?side1 ?side2 A14.out).mono ?_
      (case side1 => exact Xc HR0_2)
      (case side2 => exact HC0_2.out)
      rintro e w17 ⟨rfl, hb⟩
      refine ⟨_, rfl, ?_⟩
      replace BK202 := Xbb BK202 hb
      replace HB := Aside0.mk (below_step Xi hb)
      (try clear hb)
      (try clear hb2)
      (try clear hk)
      (try clear hi)
      refine hK.out _ _ ⟨(blk_cell BK202.out 0).trans rfl, (blk_cell BK202.out 1).trans rfl, (blk_cell BK202.out 2).trans rfl, Xn hw205_0⟩ (fun hHeld => ?_)
      clear hK K
      refine Xno ?_
      refine Xpu 9 35 (XW.bs 11 1023) HT_.out ?_
      refine Xpu 10 7 (XW.bs 11 2047) HT_.out ?_
      refine done_ (done_of HT_.out (by kernel_rfl)) ?_
      try go_wp2_with (fail)
      go_roundg k1
      case measure => have := HK1.out; omega
      case rel => exact ⟨(ji15), (wrap64 (x9_1 + 1)), (by first | rfl | (simp; done) | (simp only [← hji15] <;> (first | rfl | simp)) | (simp [*]; done)), Xr, H', Xk1, BK202, ⟨Xi⟩⟩
     ·obtain rfl := Option.some.inj H
      go_wp2
      go_ret
      exact ⟨Xe, Xi⟩
  ·exact absurd H (by simp)

/-! ### spec_l02Has: function 102 -/
def spec_l02Has.l0 : Nat → List Int → Int → Int → Option (Bool)
 | 0, _, _, _ => none
 | k + 1, x0, x1, x5 => if x5 < (x0.length : Int) then (if 0 ≤ x5 then (if (rd x0 x5) = x1 then (some true) else (spec_l02Has.l0 k x0 x1 (wrap64 (x5 + 1)))) else (none)) else (some false)
def spec_l02Has.f (k : Nat) (l0 : List Int) (a1 : Int) : Option (Bool) := spec_l02Has.l0 k l0 a1 0
set_option maxHeartbeats 8000000 in
set_option maxRecDepth 100000 in
theorem spec_l02Has.calls (k : Nat) (A0 : Option Addr) (c0 : Nat) (l0 : List Int) (a1 : Int) (r : Bool) (w : World) (hr0 : Kd.C (Kd.int .i64) w A0 l0.length l0) (hc0 : l0.length ≤ c0) (h : spec_l02Has.f k l0 a1 = some r) :
  Calls Try.prog 102 #[.slice A0 l0.length c0, .int .i64 a1] w fun e w' => e = .returned (.bool r) ∧ Drawn0 w w' := by
 have HR0 := Aside0.mk hr0
 have HC0 := Aside0.mk hc0
 clear hr0 hc0
 have H : (spec_l02Has.l0 k l0 a1 0) = some r := h
 clear h
 have H' := Aside0.mk H
 clear H
 go_enter Try.func102, Try.ntmps102
 go_wp2
 go_loopg [5] k (fun kq v5 w' => ∃ (x5_1 : Int), v5 = .int .i64 x5_1 ∧ Aside0 (spec_l02Has.l0 kq l0 a1 x5_1 = some r) ∧ Aside0 (kq ≤ k) ∧ Drawn0 w w')
 case atStart => exact ⟨(0), Xr, H', Xkr, by repeat (first | exact Drawn0.refl _ | apply Drawn0.step)⟩
 case round =>
  clear H'
  obtain ⟨x5_1, rfl, HA, HK1, ⟨m1, rfl⟩⟩ := hrel
  cases gk with
  | zero => cases HA.out
  | succ k1 =>
   have H := HA.out
   clear HA
   simp only [spec_l02Has.l0] at H
   obtain ⟨c3b0, H⟩ | ⟨c3b0, H⟩ := Xit H
   ·obtain ⟨c4b0, H⟩ := Xid H
    obtain ⟨c5, H⟩ | ⟨c5, H⟩ := Xiu H
    ·have c5b0 : ((rd l0 x5_1) == a1) = true := beq_iff_eq.mpr c5
     have c5b1 : ((rd l0 x5_1) != a1) = false := bne_eq_false_iff_eq.mpr c5
     clear c5
     obtain rfl := Option.some.inj H
     have p207 : 0 ≤ (x5_1 : Int) := of_decide_eq_true Xa
     have q207 : x5_1 < (l0.length : Int) := of_decide_eq_true Xa
     obtain ⟨ad207, e207, hx207_0⟩ := Kd.at_int HR0.out x5_1 p207 q207
     cases e207
     replace p207 := eq_true p207
     replace q207 := eq_true q207
     go_wp2
     go_ret
     exact ⟨Xr, Xdr⟩
    ·have c5b0 : ((rd l0 x5_1) == a1) = false := beq_eq_false_iff_ne.mpr c5
     have c5b1 : ((rd l0 x5_1) != a1) = true := bne_iff_ne.mpr c5
     have H' := Aside0.mk H
     clear H
     have p207 : 0 ≤ (x5_1 : Int) := of_decide_eq_true Xa
     have q207 : x5_1 < (l0.length : Int) := of_decide_eq_true Xa
     obtain ⟨ad207, e207, hx207_0⟩ := Kd.at_int HR0.out x5_1 p207 q207
     cases e207
     replace p207 := eq_true p207
     replace q207 := eq_true q207
     go_wp2
     go_roundg k1
     case measure => have := HK1.out; omega
     case rel => exact ⟨(wrap64 (x5_1 + 1)), Xr, H', Xk1, by repeat (first | exact Drawn0.refl _ | apply Drawn0.step)⟩
   ·obtain rfl := Option.some.inj H
    go_wp2
    go_ret
    exact ⟨Xr, Xdr⟩

end Go.Proofs.Ytpdhccdmbdbdpaa.XA
