/- Contracts of the program's functions: each Go function that is named below comes to what its Lean function says. Written by xprint.py (a program of this session's, over the kit's print). Conditions: each contract's own premises. -/
import Derived.Test.YthkbgbkglgmpoaaYSchemaLines0
import Derived.Test.YthkbgbkglgmpoaaYSchemaLines4
namespace Go.Proofs.Ythkbgbkglgmpoaa.XA
open Go.RowKit Go.Proofs.YthkbgbkglgmpoaaW.PrintWords Go.Proofs.YthkbgbkglgmpoaaW.PrintLast Go.Proofs.YthkbgbkglgmpoaaW.PrintMore XW
attribute [local go_sem] max2_int min2_int max_two min_two max_three min_three max_four min_four   -- for this text's walks alone
set_option linter.unusedVariables false
set_option linter.unusedSimpArgs false

/-! ### slices_IndexFunc_impl_Term_impl_Term_at_impl_areTerms_1: function 140 -/
def slices_IndexFunc_impl_Term_impl_Term_at_impl_areTerms_1.l0 : Nat → List (S78) → Int → Int → Int → Option (Int)
 | 0, _, _, _, _ => none
 | k + 1, x0, x7, x8, x26000 => if x8 < x7 then (if 0 ≤ x8 then (if x8 < (x0.length : Int) then ((impl_areTerms_1.f k ((rd_T78 x0 x8).f0) ((rd_T78 x0 x8).f1) x26000).bind fun t195 => (if t195 = true then (some x8) else (slices_IndexFunc_impl_Term_impl_Term_at_impl_areTerms_1.l0 k x0 x7 (wrap64 (x8 + 1)) x26000))) else (none)) else (none)) else (some (-1))
def slices_IndexFunc_impl_Term_impl_Term_at_impl_areTerms_1.f (k : Nat) (l0 : List (S78)) (a1_0_0 : Int) : Option (Int) := slices_IndexFunc_impl_Term_impl_Term_at_impl_areTerms_1.l0 k l0 (l0.length : Int) 0 a1_0_0
set_option maxHeartbeats 8000000 in
set_option maxRecDepth 100000 in
theorem slices_IndexFunc_impl_Term_impl_Term_at_impl_areTerms_1.calls (k : Nat) (A0 : Option Addr) (c0 : Nat) (l0 : List (S78)) (g1_0_ : Nat) (a1_0_0 : Int) (r : Int) (w : World) (hr0 : Kd.C k78 w A0 l0.length l0) (hc0 : l0.length ≤ c0) (hg1_0_ : w.heap[g1_0_]? = some (.cells #[.int .i64 a1_0_0] 3 (0, 0))) (h : slices_IndexFunc_impl_Term_impl_Term_at_impl_areTerms_1.f k l0 a1_0_0 = some r) :
  Calls Try.prog 140 #[.slice A0 l0.length c0, .func (.func 99) #[] #[.pointer (some ⟨g1_0_, 0, none⟩)]] w fun e w' => e = .returned (.int .i64 r) ∧ Below w.heap.size w w' := by
 have hu78 := Try.underlying78
 have HR0 := Aside0.mk hr0
 have HC0 := Aside0.mk hc0
 clear hr0 hc0
 have BK25 := Aside0.mk hg1_0_
 clear hg1_0_
 have HB := Aside0.mk (Below.refl w.heap.size w)
 have H : (slices_IndexFunc_impl_Term_impl_Term_at_impl_areTerms_1.l0 k l0 (l0.length : Int) 0 a1_0_0) = some r := h
 clear h
 have H' := Aside0.mk H
 clear H
 go_enter Try.func140, Try.ntmps140
 go_wp2
 go_loopg [8] k (fun kq v8 w' => ∃ (x8_1 : Int), v8 = .int .i64 x8_1 ∧ Aside0 (slices_IndexFunc_impl_Term_impl_Term_at_impl_areTerms_1.l0 kq l0 (l0.length : Int) x8_1 a1_0_0 = some r) ∧ Aside0 (kq ≤ k) ∧ Aside0 (w'.heap[g1_0_]? = some (.cells #[.int .i64 a1_0_0] 3 (0, 0))) ∧ Aside0 (Below w.heap.size w w'))
 case atStart => exact ⟨(0), Xr, H', Xkr, BK25, ⟨Xi⟩⟩
 case round =>
  clear H'
  obtain ⟨x8_1, rfl, HA, HK1, BK25, HB⟩ := hrel
  cases gk with
  | zero => cases HA.out
  | succ k1 =>
   have H := HA.out
   clear HA
   simp only [slices_IndexFunc_impl_Term_impl_Term_at_impl_areTerms_1.l0] at H
   obtain ⟨c3b0, H⟩ | ⟨c3b0, H⟩ := Xit H
   ·obtain ⟨c4b0, H⟩ := Xid H
    obtain ⟨c5b0, H⟩ := Xid H
    obtain ⟨t195, A6, H⟩ := Xbi H
    (try dsimp only at H)
    have HC7 := Aside0.mk H
    clear H
    obtain ⟨ad194, A194_0, c194_0, e194, p194, q194, hx194_0, hx194_1, HC194_0, HR194_0⟩ := at_B78 HR0 x8_1 Xa Xa HB
    cases e194
    go_upto_if 16 with (first | (go_at_call 99; (with_reducible refine (impl_areTerms_1.calls k1 _ _ ((rd_T78 l0 x8_1).f0) ((rd_T78 l0 x8_1).f1) g1_0_ a1_0_0 t195 _ ?side1 ?side2 ?side3 A6.out).mono ?_); (case side1 => exact Xc HR194_0); (case side2 => exact HC194_0.out); (case side3 => exact BK25.out); rintro e w8 ⟨rfl, hb⟩; replace BK25 := Xbb BK25 hb; replace HB := Aside0.mk (below_step Xi hb); clear hb))
    have H := HC7.out
    clear HC7
    by_cases c9 : t195 = true
    ·subst c9
     (first | rw [if_pos rfl] at H | skip)
     obtain rfl := Option.some.inj H
     go_wp2
     go_ret
     exact ⟨Xe, Xi⟩
    ·replace c9 := Bool.eq_false_iff.mpr c9
     subst c9
     (first | rw [if_neg (show ¬ (false = true) by decide)] at H | skip)
     have H' := Aside0.mk H
     clear H
     go_wp2
     go_roundg k1
     case measure => have := HK1.out; omega
     case rel => exact ⟨(wrap64 (x8_1 + 1)), Xr, H', Xk1, BK25, ⟨Xi⟩⟩
   ·obtain rfl := Option.some.inj H
    go_wp2
    go_ret
    exact ⟨Xe, Xi⟩

/-! ### slices_ContainsFunc_impl_Term_impl_Term_at_impl_areTerms_1: function 98 -/
def slices_ContainsFunc_impl_Term_impl_Term_at_impl_areTerms_1.f (k : Nat) (l0 : List (S78)) (a1_0_0 : Int) : Option (Bool) := (slices_IndexFunc_impl_Term_impl_Term_at_impl_areTerms_1.f k l0 a1_0_0).bind fun t196 => (some (decide (t196 ≥ 0)))
set_option maxHeartbeats 8000000 in
set_option maxRecDepth 100000 in
theorem slices_ContainsFunc_impl_Term_impl_Term_at_impl_areTerms_1.calls (k : Nat) (A0 : Option Addr) (c0 : Nat) (l0 : List (S78)) (g1_0_ : Nat) (a1_0_0 : Int) (r : Bool) (w : World) (hr0 : Kd.C k78 w A0 l0.length l0) (hc0 : l0.length ≤ c0) (hg1_0_ : w.heap[g1_0_]? = some (.cells #[.int .i64 a1_0_0] 3 (0, 0))) (h : slices_ContainsFunc_impl_Term_impl_Term_at_impl_areTerms_1.f k l0 a1_0_0 = some r) :
  Calls Try.prog 98 #[.slice A0 l0.length c0, .func (.func 99) #[] #[.pointer (some ⟨g1_0_, 0, none⟩)]] w fun e w' => e = .returned (.bool r) ∧ Below w.heap.size w w' := by
 have HR0 := Aside0.mk hr0
 have HC0 := Aside0.mk hc0
 clear hr0 hc0
 have BK25 := Aside0.mk hg1_0_
 clear hg1_0_
 have HB := Aside0.mk (Below.refl w.heap.size w)
 have H : ((slices_IndexFunc_impl_Term_impl_Term_at_impl_areTerms_1.f k l0 a1_0_0).bind fun t196 => (some (decide (t196 ≥ 0)))) = some r := h
 clear h
 obtain ⟨t196, A3, H⟩ := Xbi H
 (try dsimp only at H)
 obtain rfl := Option.some.inj H
 go_enter Try.func98, Try.ntmps98
 go_wp2_with (first | ((with_reducible refine gate_callee (f := 140) rfl ?_); refine Xgo 7 Try.func140 #[.slice A0 l0.length c0, .func (.func 99) #[] #[.pointer (some ⟨g1_0_, 0, none⟩)]] ?_; (with_reducible refine (slices_IndexFunc_impl_Term_impl_Term_at_impl_areTerms_1.calls k _ _ l0 g1_0_ a1_0_0 t196 _ ?side1 ?side2 ?side3 A3.out).mono ?_); (case side1 => repeat (first | exact HR0.out | (with_reducible first | refine Kd.C_alloc ?_ _ | refine Kd.C_drewN ?_ _ | refine Kd.C_drew ?_))); (case side2 => exact HC0.out); (case side3 => exact BK25.out); rintro e w4 ⟨rfl, hb⟩; refine ⟨_, rfl, ?_⟩; replace BK25 := Xbb BK25 hb; replace HB := Aside0.mk (below_step Xi hb); clear hb))
 go_ret
 exact ⟨Xe, Xi⟩

/-! ### impl_areTerms: function 47 -/
def impl_areTerms.f (k : Nat) (l0 : List (S78)) (a1 : Int) : Option (Bool) := if (l0.length : Int) ≤ 4 then ((slices_ContainsFunc_impl_Term_impl_Term_at_impl_areTerms_1.f k l0 a1).bind fun t198 => (some (!t198))) else (some false)
set_option maxHeartbeats 8000000 in
set_option maxRecDepth 100000 in
theorem impl_areTerms.calls (k : Nat) (A0 : Option Addr) (c0 : Nat) (l0 : List (S78)) (a1 : Int) (r : Bool) (w : World) (hr0 : Kd.C k78 w A0 l0.length l0) (hc0 : l0.length ≤ c0) (h : impl_areTerms.f k l0 a1 = some r) :
  Calls Try.prog 47 #[.slice A0 l0.length c0, .int .i64 a1] w fun e w' => e = .returned (.bool r) ∧ Below w.heap.size w w' := by
 have HR0 := Aside0.mk hr0
 have HC0 := Aside0.mk hc0
 clear hr0 hc0
 have HB := Aside0.mk (Below.refl w.heap.size w)
 have H : (if (l0.length : Int) ≤ 4 then ((slices_ContainsFunc_impl_Term_impl_Term_at_impl_areTerms_1.f k l0 a1).bind fun t198 => (some (!t198))) else (some false)) = some r := h
 clear h
 have HC3 := Aside0.mk H
 clear H
 go_enter Try.func47, Try.ntmps47
 go_upto_region 1 with (first | ((with_reducible refine gate_dst (N := 3) rfl ?_); refine Xbox 3 #[.int .i64 a1] 3 ?_; intro gb197 hg w4 hbox hb; have BK197 := Aside0.mk (hbox); have GE197 := Xge hg Xi; replace HB := Aside0.mk (below_step Xi hb); clear hb hbox hg))
 have H := HC3.out
 clear HC3
 obtain ⟨c5, H⟩ | ⟨c5, H⟩ := Xiu H
 ·have c5b0 : decide ((l0.length : Int) ≤ 4) = true := decide_eq_true c5
  have c5b1 : decide (l0.length ≤ 4) = true := decide_eq_true (by omega)
  clear c5
  obtain ⟨t198, A6, H⟩ := Xbi H
  (try dsimp only at H)
  obtain rfl := Option.some.inj H
  go_wp2_with (first | (go_at_call 98; (with_reducible refine (slices_ContainsFunc_impl_Term_impl_Term_at_impl_areTerms_1.calls k _ _ l0 gb197 a1 t198 _ ?side1 ?side2 ?side3 A6.out).mono ?_); (case side1 => exact Xc HR0); (case side2 => exact HC0.out); (case side3 => exact BK197.out); rintro e w7 ⟨rfl, hb⟩; replace BK197 := Xbb BK197 hb; replace HB := Aside0.mk (below_step Xi hb); clear hb))
  go_ret
  exact ⟨Xe, Xi⟩
 ·have c5b0 : decide ((l0.length : Int) ≤ 4) = false := decide_eq_false c5
  have c5b1 : decide (l0.length ≤ 4) = false := decide_eq_false (by omega)
  clear c5
  obtain rfl := Option.some.inj H
  go_wp2
  go_ret
  exact ⟨Xe, Xi⟩

/-! ### impl_isLetter: function 160 -/
def impl_isLetter.f (a0 : Int) : Option (Bool) := if a0 ≥ 97 then (if a0 ≤ 122 then (some true) else (if a0 ≥ 65 then (if a0 ≤ 90 then (some true) else (some (a0 == 95))) else (some (a0 == 95)))) else (if a0 ≥ 65 then (if a0 ≤ 90 then (some true) else (some (a0 == 95))) else (some (a0 == 95)))
set_option maxHeartbeats 8000000 in
set_option maxRecDepth 100000 in
theorem impl_isLetter.calls (a0 : Int) (r : Bool) (w : World) (h : impl_isLetter.f a0 = some r) :
  Calls Try.prog 160 #[.int .u8 a0] w fun e w' => e = .returned (.bool r) ∧ Drawn0 w w' := by
 have H : (if a0 ≥ 97 then (if a0 ≤ 122 then (some true) else (if a0 ≥ 65 then (if a0 ≤ 90 then (some true) else (some (a0 == 95))) else (some (a0 == 95)))) else (if a0 ≥ 65 then (if a0 ≤ 90 then (some true) else (some (a0 == 95))) else (some (a0 == 95)))) = some r := h
 clear h
 obtain ⟨c2, H⟩ | ⟨c2, H⟩ := Xiu H
 ·have c2b0 : decide (97 ≤ a0) = true := decide_eq_true c2
  clear c2
  obtain ⟨c3b0, H⟩ | ⟨c3b0, H⟩ := Xit H
  ·obtain rfl := Option.some.inj H
   go_enter Try.func160, Try.ntmps160
   go_wp2
   go_ret
   exact ⟨Xr, Xdr⟩
  ·obtain ⟨c4, H⟩ | ⟨c4, H⟩ := Xiu H
   ·have c4b0 : decide (65 ≤ a0) = true := decide_eq_true c4
    clear c4
    obtain ⟨c5b0, H⟩ | ⟨c5b0, H⟩ := Xit H
    ·obtain rfl := Option.some.inj H
     go_enter Try.func160, Try.ntmps160
     go_wp2
     go_ret
     exact ⟨Xr, Xdr⟩
    ·obtain rfl := Option.some.inj H
     go_enter Try.func160, Try.ntmps160
     go_wp2
     go_ret
     exact ⟨Xr, Xdr⟩
   ·have c4b0 : decide (65 ≤ a0) = false := decide_eq_false c4
    clear c4
    obtain rfl := Option.some.inj H
    go_enter Try.func160, Try.ntmps160
    go_wp2
    go_ret
    exact ⟨Xr, Xdr⟩
 ·have c2b0 : decide (97 ≤ a0) = false := decide_eq_false c2
  clear c2
  obtain ⟨c6, H⟩ | ⟨c6, H⟩ := Xiu H
  ·have c6b0 : decide (65 ≤ a0) = true := decide_eq_true c6
   clear c6
   obtain ⟨c7b0, H⟩ | ⟨c7b0, H⟩ := Xit H
   ·obtain rfl := Option.some.inj H
    go_enter Try.func160, Try.ntmps160
    go_wp2
    go_ret
    exact ⟨Xr, Xdr⟩
   ·obtain rfl := Option.some.inj H
    go_enter Try.func160, Try.ntmps160
    go_wp2
    go_ret
    exact ⟨Xr, Xdr⟩
  ·have c6b0 : decide (65 ≤ a0) = false := decide_eq_false c6
   clear c6
   obtain rfl := Option.some.inj H
   go_enter Try.func160, Try.ntmps160
   go_wp2
   go_ret
   exact ⟨Xr, Xdr⟩

/-! ### impl_NameOK: function 145 -/
mutual
def impl_NameOK.j0 : Nat → ByteArray → Bool → Option (Bool)
 | 0, _, _ => none
 | k + 1, x0, x17 => if x17 = true then (some false) else (impl_NameOK.l0 k x0 (x0.size : Int) 0)
def impl_NameOK.l0 : Nat → ByteArray → Int → Int → Option (Bool)
 | 0, _, _, _ => none
 | k + 1, x0, x19, x20 => if x20 < x19 then (if 0 ≤ x20 then (if x20 < (x0.size : Int) then ((impl_isLetter.f (bt x0 x20)).bind fun t200 => (if t200 = true then (impl_NameOK.l0 k x0 x19 (wrap64 (x20 + 1))) else (if (bt x0 x20) < 48 then (some false) else (if (bt x0 x20) > 57 then (some false) else (impl_NameOK.l0 k x0 x19 (wrap64 (x20 + 1))))))) else (none)) else (none)) else (some true)
end
def impl_NameOK.f (k : Nat) (a0 : ByteArray) : Option (Bool) := if (a0.size : Int) < 1 then (impl_NameOK.j0 k a0 true) else (if (a0.size : Int) > 12 then (impl_NameOK.j0 k a0 true) else (if 0 < (a0.size : Int) then ((impl_isLetter.f (bt a0 0)).bind fun t199 => (impl_NameOK.j0 k a0 (!t199))) else (none)))
theorem impl_NameOK.mono_l : ∀ k, (∀ y0 y1, LeO (impl_NameOK.j0 k y0 y1) (impl_NameOK.j0 (k + 1) y0 y1)) ∧ (∀ y0 y1 y2, LeO (impl_NameOK.l0 k y0 y1 y2) (impl_NameOK.l0 (k + 1) y0 y1 y2))
 | 0 => ⟨fun _ _ r h => by simp [impl_NameOK.j0] at h, fun _ _ _ r h => by simp [impl_NameOK.l0] at h⟩
 | k + 1 => by
  obtain ⟨ih0, ih1⟩ := impl_NameOK.mono_l k
  refine ⟨?_, ?_⟩
  ·intro y0 y1
   unfold impl_NameOK.j0
   repeat' first | (with_reducible first | exact ih0 _ _ | exact ih1 _ _ _ | exact LeO.refl _ | exact LeO.none _ | refine LeO.ite ?_ ?_ | refine LeO.bind ?_ (fun _ => ?_)) | exact ih0 _ _ | exact ih1 _ _ _ | exact LeO.none _ | refine LeO.ite ?_ ?_ | refine LeO.bind ?_ (fun _ => ?_)
  ·intro y0 y1 y2
   unfold impl_NameOK.l0
   repeat' first | (with_reducible first | exact ih0 _ _ | exact ih1 _ _ _ | exact LeO.refl _ | exact LeO.none _ | refine LeO.ite ?_ ?_ | refine LeO.bind ?_ (fun _ => ?_)) | exact ih0 _ _ | exact ih1 _ _ _ | exact LeO.none _ | refine LeO.ite ?_ ?_ | refine LeO.bind ?_ (fun _ => ?_)
theorem impl_NameOK.mono : ∀ a0 k, LeO (impl_NameOK.f k a0) (impl_NameOK.f (k + 1) a0) := by
 intro a0 k
 obtain ⟨ih0, ih1⟩ := impl_NameOK.mono_l k
 unfold impl_NameOK.f
 repeat' first | (with_reducible first | exact ih0 _ _ | exact ih1 _ _ _ | exact LeO.refl _ | exact LeO.none _ | refine LeO.ite ?_ ?_ | refine LeO.bind ?_ (fun _ => ?_)) | exact ih0 _ _ | exact ih1 _ _ _ | exact LeO.none _ | refine LeO.ite ?_ ?_ | refine LeO.bind ?_ (fun _ => ?_)
set_option maxHeartbeats 8000000 in
set_option maxRecDepth 100000 in
theorem impl_NameOK.calls (k : Nat) (a0 : ByteArray) (r : Bool) (w : World) (h : impl_NameOK.f k a0 = some r) :
  Calls Try.prog 145 #[.string a0] w fun e w' => e = .returned (.bool r) ∧ Drawn0 w w' := by
 have H : (if (a0.size : Int) < 1 then (impl_NameOK.j0 k a0 true) else (if (a0.size : Int) > 12 then (impl_NameOK.j0 k a0 true) else (if 0 < (a0.size : Int) then ((impl_isLetter.f (bt a0 0)).bind fun t199 => (impl_NameOK.j0 k a0 (!t199))) else (none)))) = some r := h
 clear h
 have HC2 := Aside0.mk H
 clear H
 go_enter Try.func145, Try.ntmps145
 go_upto_region 1 with (fail)
 go_cut [17] (fun v17 wc => ∃ (kq : Nat) (x17_1 : Bool), v17 = .bool x17_1 ∧ Aside0 (impl_NameOK.j0 kq a0 x17_1 = some r) ∧ Aside0 (kq ≤ k) ∧ Drawn0 w wc)
 case first =>
  have H := HC2.out
  clear HC2
  obtain ⟨c3, H⟩ | ⟨c3, H⟩ := Xiu H
  ·have c3b0 : decide ((a0.size : Int) < 1) = true := decide_eq_true c3
   have c3b1 : decide (a0.size < 1) = true := decide_eq_true (by omega)
   clear c3
   (first | rw [c3b0] | (simp only [i64_w, i32_w]; rw [c3b0]) | skip)
   have H' := Aside0.mk H
   clear H
   go_wp2
   go_meet
   case rel => exact ⟨_, (true), Xr, H', Xko, by repeat (first | exact Drawn0.refl _ | apply Drawn0.step)⟩
  ·have c3b0 : decide ((a0.size : Int) < 1) = false := decide_eq_false c3
   have c3b1 : decide (a0.size < 1) = false := decide_eq_false (by omega)
   clear c3
   (first | rw [c3b0] | (simp only [i64_w, i32_w]; rw [c3b0]) | skip)
   obtain ⟨c4, H⟩ | ⟨c4, H⟩ := Xiu H
   ·have c4b0 : decide (12 < (a0.size : Int)) = true := decide_eq_true c4
    have c4b1 : decide (12 < a0.size) = true := decide_eq_true (by omega)
    clear c4
    have H' := Aside0.mk H
    clear H
    go_wp2
    go_meet
    case rel => exact ⟨_, (true), Xr, H', Xko, by repeat (first | exact Drawn0.refl _ | apply Drawn0.step)⟩
   ·have c4b0 : decide (12 < (a0.size : Int)) = false := decide_eq_false c4
    have c4b1 : decide (12 < a0.size) = false := decide_eq_false (by omega)
    clear c4
    obtain ⟨c5, H⟩ := Xif H
    have c5b0 : decide (0 < (a0.size : Int)) = true := decide_eq_true c5
    have c5b1 : decide (0 < a0.size) = true := decide_eq_true (by omega)
    clear c5
    obtain ⟨t199, A7, H⟩ := Xbi H
    (try dsimp only at H)
    have H' := Aside0.mk H
    clear H
    have p6 : 0 ≤ (0 : Int) := (by omega)
    have q6 : 0 < a0.size := (by have : (0 : Int) < (a0.size : Int) := of_decide_eq_true Xa; omega)
    have hx6 : ∀ h : 0 < a0.size, ((a0[0]'h).toNat : Int) = bt a0 0 := bt_at a0 0
    clear p6
    have qi6 : (0 < (a0.size : Int)) = True := eq_true (of_decide_eq_true Xa)
    replace q6 := eq_true q6
    go_wp2_with (first | (go_at_call 160; (with_reducible refine (impl_isLetter.calls (bt a0 0) t199 _ A7.out).mono ?_); rintro e w' ⟨rfl, ⟨nd, rfl⟩⟩))
    go_meet
    case rel => exact ⟨_, (!t199), Xr, H', Xko, by repeat (first | exact Drawn0.refl _ | apply Drawn0.step)⟩
 case rest =>
  clear HC2
  obtain ⟨kq, x17_1, rfl, HA, HJ1, ⟨mc1, rfl⟩⟩ := hcut
  cases kq with
  | zero => cases HA.out
  | succ kj1 =>
   have H := HA.out
   clear HA
   simp only [impl_NameOK.j0] at H
   by_cases c8 : x17_1 = true
   ·subst c8
    (first | rw [if_pos rfl] at H | skip)
    obtain rfl := Option.some.inj H
    go_wp2
    go_ret
    exact ⟨Xr, Xdr⟩
   ·replace c8 := Bool.eq_false_iff.mpr c8
    subst c8
    (first | rw [if_neg (show ¬ (false = true) by decide)] at H | skip)
    have H' := Aside0.mk H
    clear H
    go_wp2
    go_loopg [20] kj1 (fun kq v20 w' => ∃ (x20_2 : Int), v20 = .int .i64 x20_2 ∧ Aside0 (impl_NameOK.l0 kq a0 (a0.size : Int) x20_2 = some r) ∧ Aside0 (kq ≤ kj1) ∧ Drawn0 w w')
    case atStart => exact ⟨(0), Xr, H', Xkr, by repeat (first | exact Drawn0.refl _ | apply Drawn0.step)⟩
    case round =>
     clear H'
     (try clear c8)
     obtain ⟨x20_2, rfl, HA, HK2, ⟨m2, rfl⟩⟩ := hrel
     cases gk with
     | zero => cases HA.out
     | succ k2 =>
      have H := HA.out
      clear HA
      simp only [impl_NameOK.l0] at H
      obtain ⟨c9b0, H⟩ | ⟨c9b0, H⟩ := Xit H
      ·obtain ⟨c10b0, H⟩ := Xid H
       obtain ⟨c11b0, H⟩ := Xid H
       obtain ⟨t200, A13, H⟩ := Xbi H
       (try dsimp only at H)
       by_cases c14 : t200 = true
       ·subst c14
        (first | rw [if_pos rfl] at H | skip)
        have H' := Aside0.mk H
        clear H
        have p12 : 0 ≤ (x20_2 : Int) := of_decide_eq_true Xa
        have q12 : x20_2 < (a0.size : Int) := of_decide_eq_true Xa
        have hx12 := bt_at a0 x20_2
        replace p12 := eq_true p12
        replace q12 := eq_true q12
        go_wp2_with (first | ((with_reducible refine gate_callee (f := 160) rfl ?_); refine Xgo 26 Try.func160 #[.int .u8 (bt a0 x20_2)] ?_; (with_reducible refine (impl_isLetter.calls (bt a0 x20_2) true _ A13.out).mono ?_); rintro e w' ⟨rfl, ⟨nd, rfl⟩⟩; refine ⟨_, rfl, ?_⟩))
        go_roundg k2
        case measure => have := HJ1.out; have := HK2.out; omega
        case rel => exact ⟨(wrap64 (x20_2 + 1)), Xr, H', ⟨by have := HJ1.out; have := HK2.out; omega⟩, by repeat (first | exact Drawn0.refl _ | apply Drawn0.step)⟩
       ·replace c14 := Bool.eq_false_iff.mpr c14
        subst c14
        (first | rw [if_neg (show ¬ (false = true) by decide)] at H | skip)
        obtain ⟨c16b0, H⟩ | ⟨c16b0, H⟩ := Xit H
        ·obtain rfl := Option.some.inj H
         have p12 : 0 ≤ (x20_2 : Int) := of_decide_eq_true Xa
         have q12 : x20_2 < (a0.size : Int) := of_decide_eq_true Xa
         have hx12 := bt_at a0 x20_2
         replace p12 := eq_true p12
         replace q12 := eq_true q12
         go_wp2_with (first | ((with_reducible refine gate_callee (f := 160) rfl ?_); refine Xgo 26 Try.func160 #[.int .u8 (bt a0 x20_2)] ?_; (with_reducible refine (impl_isLetter.calls (bt a0 x20_2) false _ A13.out).mono ?_); rintro e w' ⟨rfl, ⟨nd, rfl⟩⟩; refine ⟨_, rfl, ?_⟩; have p15 : 0 ≤ (x20_2 : Int) := of_decide_eq_true Xa; have q15 : x20_2 < (a0.size : Int) := of_decide_eq_true Xa; have hx15 := bt_at a0 x20_2; replace p15 := eq_true p15; replace q15 := eq_true q15))
         go_ret
         exact ⟨Xr, Xdr⟩
        ·have HC18 := Aside0.mk H
         clear H
         have p12 : 0 ≤ (x20_2 : Int) := of_decide_eq_true Xa
         have q12 : x20_2 < (a0.size : Int) := of_decide_eq_true Xa
         have hx12 := bt_at a0 x20_2
         replace p12 := eq_true p12
         replace q12 := eq_true q12
         go_upto_if 39 with (first | ((with_reducible refine gate_callee (f := 160) rfl ?_); refine Xgo 26 Try.func160 #[.int .u8 (bt a0 x20_2)] ?_; (with_reducible refine (impl_isLetter.calls (bt a0 x20_2) false _ A13.out).mono ?_); rintro e w' ⟨rfl, ⟨nd, rfl⟩⟩; refine ⟨_, rfl, ?_⟩; have p15 : 0 ≤ (x20_2 : Int) := of_decide_eq_true Xa; have q15 : x20_2 < (a0.size : Int) := of_decide_eq_true Xa; have hx15 := bt_at a0 x20_2; replace p15 := eq_true p15; replace q15 := eq_true q15; have p17 : 0 ≤ (x20_2 : Int) := of_decide_eq_true Xa; have q17 : x20_2 < (a0.size : Int) := of_decide_eq_true Xa; have hx17 := bt_at a0 x20_2; replace p17 := eq_true p17; replace q17 := eq_true q17))
         have H := HC18.out
         clear HC18
         obtain ⟨c19, H⟩ | ⟨c19, H⟩ := Xiu H
         ·have c19b0 : decide (57 < (bt a0 x20_2)) = true := decide_eq_true c19
          clear c19
          (first | rw [c19b0] | (simp only [i64_w, i32_w]; rw [c19b0]) | skip)
          obtain rfl := Option.some.inj H
          go_wp2
          go_ret
          exact ⟨Xr, Xdr⟩
         ·have c19b0 : decide (57 < (bt a0 x20_2)) = false := decide_eq_false c19
          clear c19
          (first | rw [c19b0] | (simp only [i64_w, i32_w]; rw [c19b0]) | skip)
          have H' := Aside0.mk H
          clear H
          go_wp2
          go_roundg k2
          case measure => have := HJ1.out; have := HK2.out; omega
          case rel => exact ⟨(wrap64 (x20_2 + 1)), Xr, H', ⟨by have := HJ1.out; have := HK2.out; omega⟩, by repeat (first | exact Drawn0.refl _ | apply Drawn0.step)⟩
      ·obtain rfl := Option.some.inj H
       go_wp2
       go_ret
       exact ⟨Xr, Xdr⟩

/-! ### impl_RuleOK: function 115 -/
def impl_RuleOK.f (k : Nat) (a0_0 : ByteArray) (a0_1 : Bool) (l0_2 : List (S78)) (a1 : Int) : Option (Bool) := (impl_within.f a1 1 8).bind fun t202 => (if t202 = true then ((impl_NameOK.f k a0_0).bind fun t203 => (if t203 = true then (if a0_0.toList = ([116, 101, 120, 116] : List UInt8) then (some false) else (if a0_1 = true then (if (l0_2.length : Int) = 0 then ((impl_areTerms.f k l0_2 a1).bind fun t204 => (some t204)) else (some false)) else ((impl_areTerms.f k l0_2 a1).bind fun t205 => (some t205)))) else (some false))) else (some false))
set_option maxHeartbeats 8000000 in
set_option maxRecDepth 100000 in
theorem impl_RuleOK.calls (k : Nat) (a0_0 : ByteArray) (a0_1 : Bool) (A0_2 : Option Addr) (c0_2 : Nat) (l0_2 : List (S78)) (a1 : Int) (r : Bool) (w : World) (hr0_2 : Kd.C k78 w A0_2 l0_2.length l0_2) (hc0_2 : l0_2.length ≤ c0_2) (h : impl_RuleOK.f k a0_0 a0_1 l0_2 a1 = some r) :
  Calls Try.prog 115 #[.agg #[.string a0_0, .bool a0_1, .slice A0_2 l0_2.length c0_2], .int .i64 a1] w fun e w' => e = .returned (.bool r) ∧ Below w.heap.size w w' := by
 have hu97 := Try.underlying97
 have HR0_2 := Aside0.mk hr0_2
 have HC0_2 := Aside0.mk hc0_2
 clear hr0_2 hc0_2
 have HB := Aside0.mk (Below.refl w.heap.size w)
 have H : ((impl_within.f a1 1 8).bind fun t202 => (if t202 = true then ((impl_NameOK.f k a0_0).bind fun t203 => (if t203 = true then (if a0_0.toList = ([116, 101, 120, 116] : List UInt8) then (some false) else (if a0_1 = true then (if (l0_2.length : Int) = 0 then ((impl_areTerms.f k l0_2 a1).bind fun t204 => (some t204)) else (some false)) else ((impl_areTerms.f k l0_2 a1).bind fun t205 => (some t205)))) else (some false))) else (some false))) = some r := h
 clear h
 have HC3 := Aside0.mk H
 clear H
 go_enter Try.func115, Try.ntmps115
 go_upto_region 1 with (first | ((with_reducible refine gate_dst (N := 2) rfl ?_); (try (refine gate_guard (by rfl) ?_; dsimp only)); refine Xbox 2 #[.string a0_0, .bool a0_1, .slice A0_2 l0_2.length c0_2] 97 ?_; intro gb201 hg w4 hbox hb; have BK201 := Aside0.mk (hbox); have GE201 := Xge hg Xi; replace HB := Aside0.mk (below_step Xi hb); clear hb hbox hg))
 have H := HC3.out
 clear HC3
 obtain ⟨t202, A5, H⟩ := Xbi H
 (try dsimp only at H)
 by_cases c6 : t202 = true
 ·subst c6
  (first | rw [if_pos rfl] at H | skip)
  obtain ⟨t203, A7, H⟩ := Xbi H
  (try dsimp only at H)
  by_cases c8 : t203 = true
  ·subst c8
   (first | rw [if_pos rfl] at H | skip)
   obtain ⟨c9, H⟩ | ⟨c9, H⟩ := Xiu H
   ·have c9b0 : (a0_0.toList == ([116, 101, 120, 116] : List UInt8)) = true := beq_iff_eq.mpr c9
    have c9b1 : (a0_0.toList != ([116, 101, 120, 116] : List UInt8)) = false := bne_eq_false_iff_eq.mpr c9
    clear c9
    obtain rfl := Option.some.inj H
    go_wp2_with (first | ((with_reducible refine gate_callee (f := 107) rfl ?_); refine Xgo 6 Try.func107 #[.int .i64 a1, .int .i64 1, .int .i64 8] ?_; (with_reducible refine (impl_within.calls a1 1 8 true _ A5.out).mono ?_); rintro e w' ⟨rfl, ⟨nd, rfl⟩⟩; refine ⟨_, rfl, ?_⟩; obtain ⟨hcz10_0, hcz10_1, hcz10_2⟩ := Xc3 BK201) | (go_at_call 145; (with_reducible refine (impl_NameOK.calls k a0_0 true _ A7.out).mono ?_); rintro e w' ⟨rfl, ⟨nd, rfl⟩⟩))
    go_ret
    exact ⟨Xe, Xi⟩
   ·have c9b0 : (a0_0.toList == ([116, 101, 120, 116] : List UInt8)) = false := beq_eq_false_iff_ne.mpr c9
    have c9b1 : (a0_0.toList != ([116, 101, 120, 116] : List UInt8)) = true := bne_iff_ne.mpr c9
    by_cases c11 : a0_1 = true
    ·subst c11
     (first | rw [if_pos rfl] at H | skip)
     obtain ⟨c12, H⟩ | ⟨c12, H⟩ := Xiu H
     ·have c12b0 : ((l0_2.length : Int) == 0) = true := beq_iff_eq.mpr c12
      have c12b1 : ((l0_2.length : Int) != 0) = false := bne_eq_false_iff_eq.mpr c12
      clear c12
      obtain ⟨t204, A13, H⟩ := Xbi H
      (try dsimp only at H)
      obtain rfl := Option.some.inj H
      go_wp2_with (first | ((with_reducible refine gate_callee (f := 107) rfl ?_); refine Xgo 6 Try.func107 #[.int .i64 a1, .int .i64 1, .int .i64 8] ?_; (with_reducible refine (impl_within.calls a1 1 8 true _ A5.out).mono ?_); rintro e w' ⟨rfl, ⟨nd, rfl⟩⟩; refine ⟨_, rfl, ?_⟩; obtain ⟨hcz14_0, hcz14_1, hcz14_2⟩ := Xc3 BK201) | (go_at_call 145; (with_reducible refine (impl_NameOK.calls k a0_0 true _ A7.out).mono ?_); rintro e w' ⟨rfl, ⟨nd, rfl⟩⟩) | (go_at_call 47; (with_reducible refine (impl_areTerms.calls k _ _ l0_2 a1 t204 _ ?side1 ?side2 A13.out).mono ?_); (case side1 => exact Xc HR0_2); (case side2 => exact HC0_2.out); rintro e w15 ⟨rfl, hb⟩; replace BK201 := Xbb BK201 hb; replace HB := Aside0.mk (below_step Xi hb); clear hb))
      go_ret
      exact ⟨Xe, Xi⟩
     ·have c12b0 : ((l0_2.length : Int) == 0) = false := beq_eq_false_iff_ne.mpr c12
      have c12b1 : ((l0_2.length : Int) != 0) = true := bne_iff_ne.mpr c12
      have c12b2 : ¬ (l0_2 = []) := fun h_ => c12 (by rw [h_]; rfl)
      obtain rfl := Option.some.inj H
      go_wp2_with (first | ((with_reducible refine gate_callee (f := 107) rfl ?_); refine Xgo 6 Try.func107 #[.int .i64 a1, .int .i64 1, .int .i64 8] ?_; (with_reducible refine (impl_within.calls a1 1 8 true _ A5.out).mono ?_); rintro e w' ⟨rfl, ⟨nd, rfl⟩⟩; refine ⟨_, rfl, ?_⟩; obtain ⟨hcz16_0, hcz16_1, hcz16_2⟩ := Xc3 BK201) | (go_at_call 145; (with_reducible refine (impl_NameOK.calls k a0_0 true _ A7.out).mono ?_); rintro e w' ⟨rfl, ⟨nd, rfl⟩⟩))
      go_ret
      exact ⟨Xe, Xi⟩
    ·replace c11 := Bool.eq_false_iff.mpr c11
     subst c11
     (first | rw [if_neg (show ¬ (false = true) by decide)] at H | skip)
     obtain ⟨t205, A17, H⟩ := Xbi H
     (try dsimp only at H)
     obtain rfl := Option.some.inj H
     go_wp2_with (first | ((with_reducible refine gate_callee (f := 107) rfl ?_); refine Xgo 6 Try.func107 #[.int .i64 a1, .int .i64 1, .int .i64 8] ?_; (with_reducible refine (impl_within.calls a1 1 8 true _ A5.out).mono ?_); rintro e w' ⟨rfl, ⟨nd, rfl⟩⟩; refine ⟨_, rfl, ?_⟩; obtain ⟨hcz18_0, hcz18_1, hcz18_2⟩ := Xc3 BK201) | (go_at_call 145; (with_reducible refine (impl_NameOK.calls k a0_0 true _ A7.out).mono ?_); rintro e w' ⟨rfl, ⟨nd, rfl⟩⟩) | (go_at_call 47; (with_reducible refine (impl_areTerms.calls k _ _ l0_2 a1 t205 _ ?side1 ?side2 A17.out).mono ?_); (case side1 => exact Xc HR0_2); (case side2 => exact HC0_2.out); rintro e w19 ⟨rfl, hb⟩; replace BK201 := Xbb BK201 hb; replace HB := Aside0.mk (below_step Xi hb); clear hb))
     go_ret
     exact ⟨Xe, Xi⟩
  ·replace c8 := Bool.eq_false_iff.mpr c8
   subst c8
   (first | rw [if_neg (show ¬ (false = true) by decide)] at H | skip)
   obtain rfl := Option.some.inj H
   go_wp2_with (first | ((with_reducible refine gate_callee (f := 107) rfl ?_); refine Xgo 6 Try.func107 #[.int .i64 a1, .int .i64 1, .int .i64 8] ?_; (with_reducible refine (impl_within.calls a1 1 8 true _ A5.out).mono ?_); rintro e w' ⟨rfl, ⟨nd, rfl⟩⟩; refine ⟨_, rfl, ?_⟩; obtain ⟨hcz20_0, hcz20_1, hcz20_2⟩ := Xc3 BK201) | (go_at_call 145; (with_reducible refine (impl_NameOK.calls k a0_0 false _ A7.out).mono ?_); rintro e w' ⟨rfl, ⟨nd, rfl⟩⟩))
   go_ret
   exact ⟨Xe, Xi⟩
 ·replace c6 := Bool.eq_false_iff.mpr c6
  subst c6
  (first | rw [if_neg (show ¬ (false = true) by decide)] at H | skip)
  obtain rfl := Option.some.inj H
  go_wp2_with (first | ((with_reducible refine gate_callee (f := 107) rfl ?_); refine Xgo 6 Try.func107 #[.int .i64 a1, .int .i64 1, .int .i64 8] ?_; (with_reducible refine (impl_within.calls a1 1 8 false _ A5.out).mono ?_); rintro e w' ⟨rfl, ⟨nd, rfl⟩⟩; refine ⟨_, rfl, ?_⟩))
  go_ret
  exact ⟨Xe, Xi⟩

/-! ### impl_kindOf_1: function 147 -/
def impl_kindOf_1.f (a0_0 : ByteArray) (a0_1 : Bool) (l0_2 : List (S78)) (a1_0 : ByteArray) : Option (Bool) := some (a0_0.toList == a1_0.toList)
set_option maxHeartbeats 8000000 in
set_option maxRecDepth 100000 in
theorem impl_kindOf_1.calls (a0_0 : ByteArray) (a0_1 : Bool) (A0_2 : Option Addr) (c0_2 : Nat) (l0_2 : List (S78)) (g1_ : Nat) (a1_0 : ByteArray) (r : Bool) (w : World) (hr0_2 : Kd.C k78 w A0_2 l0_2.length l0_2) (hc0_2 : l0_2.length ≤ c0_2) (hg1_ : w.heap[g1_]? = some (.cells #[.string a1_0] 9 (0, 0))) (h : impl_kindOf_1.f a0_0 a0_1 l0_2 a1_0 = some r) :
  Calls Try.prog 147 #[.agg #[.string a0_0, .bool a0_1, .slice A0_2 l0_2.length c0_2], .pointer (some ⟨g1_, 0, none⟩)] w fun e w' => e = .returned (.bool r) ∧ Below w.heap.size w w' := by
 have hu97 := Try.underlying97
 have HR0_2 := Aside0.mk hr0_2
 have HC0_2 := Aside0.mk hc0_2
 clear hr0_2 hc0_2
 have BK1 := Aside0.mk hg1_
 clear hg1_
 have HB := Aside0.mk (Below.refl w.heap.size w)
 have H : (some (a0_0.toList == a1_0.toList)) = some r := h
 clear h
 obtain rfl := Option.some.inj H
 go_enter Try.func147, Try.ntmps147
 go_wp2_with (first | ((with_reducible refine gate_dst (N := 2) rfl ?_); refine Xbox 2 #[.string a0_0, .bool a0_1, .slice A0_2 l0_2.length c0_2] 97 ?_; intro gb208 hg w3 hbox hb; have BK208 := Aside0.mk (hbox); have GE208 := Xge hg Xi; replace HB := Aside0.mk (below_step Xi hb); have NB1_208 := Xnb hg BK1; have NB208_1 := Xns NB1_208; replace BK1 := Xbb BK1 hb; clear hb hbox hg; have hnb4 := NB208_1.out; have hnc4 := NB1_208.out; obtain ⟨hcz5_0, hcz5_1, hcz5_2⟩ := Xc3 BK208; have hcz6_0 := (blk_cell BK1.out 0).trans XW.i0))
 go_ret
 exact ⟨Xe, Xi⟩

end Go.Proofs.Ythkbgbkglgmpoaa.XA
