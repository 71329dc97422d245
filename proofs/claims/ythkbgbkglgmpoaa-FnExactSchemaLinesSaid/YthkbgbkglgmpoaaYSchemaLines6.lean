/- Contracts of the program's functions: each Go function that is named below comes to what its Lean function says. Written by xprint.py (a program of this session's, over the kit's print). Conditions: each contract's own premises. -/
import Derived.Test.YthkbgbkglgmpoaaYSchemaLines0
import Derived.Test.YthkbgbkglgmpoaaYSchemaLines4
import Derived.Test.YthkbgbkglgmpoaaYSchemaLines5
namespace Go.Proofs.Ythkbgbkglgmpoaa.XA
open Go.RowKit Go.Proofs.YthkbgbkglgmpoaaW.PrintWords Go.Proofs.YthkbgbkglgmpoaaW.PrintLast Go.Proofs.YthkbgbkglgmpoaaW.PrintMore XW
attribute [local go_sem] max2_int min2_int max_two min_two max_three min_three max_four min_four   -- for this text's walks alone
set_option linter.unusedVariables false
set_option linter.unusedSimpArgs false

/-! ### slices_IndexFunc_impl_Rule_impl_Rule_at_impl_kindOf_1: function 146 -/
def slices_IndexFunc_impl_Rule_impl_Rule_at_impl_kindOf_1.l0 : Nat → List (S97) → Int → Int → ByteArray → Option (Int)
 | 0, _, _, _, _ => none
 | k + 1, x0, x7, x8, x26000 => if x8 < x7 then (if 0 ≤ x8 then (if x8 < (x0.length : Int) then ((impl_kindOf_1.f ((rd_T97 x0 x8).f0) ((rd_T97 x0 x8).f1) ((rd_T97 x0 x8).f2) x26000).bind fun t210 => (if t210 = true then (some x8) else (slices_IndexFunc_impl_Rule_impl_Rule_at_impl_kindOf_1.l0 k x0 x7 (wrap64 (x8 + 1)) x26000))) else (none)) else (none)) else (some (-1))
def slices_IndexFunc_impl_Rule_impl_Rule_at_impl_kindOf_1.f (k : Nat) (l0 : List (S97)) (a1_0_0 : ByteArray) : Option (Int) := slices_IndexFunc_impl_Rule_impl_Rule_at_impl_kindOf_1.l0 k l0 (l0.length : Int) 0 a1_0_0
set_option maxHeartbeats 8000000 in
set_option maxRecDepth 100000 in
theorem slices_IndexFunc_impl_Rule_impl_Rule_at_impl_kindOf_1.calls (k : Nat) (A0 : Option Addr) (c0 : Nat) (l0 : List (S97)) (g1_0_ : Nat) (a1_0_0 : ByteArray) (r : Int) (w : World) (hr0 : Kd.C k97 w A0 l0.length l0) (hc0 : l0.length ≤ c0) (hg1_0_ : w.heap[g1_0_]? = some (.cells #[.string a1_0_0] 9 (0, 0))) (h : slices_IndexFunc_impl_Rule_impl_Rule_at_impl_kindOf_1.f k l0 a1_0_0 = some r) :
  Calls Try.prog 146 #[.slice A0 l0.length c0, .func (.func 147) #[] #[.pointer (some ⟨g1_0_, 0, none⟩)]] w fun e w' => e = .returned (.int .i64 r) ∧ Below w.heap.size w w' := by
 have hu97 := Try.underlying97
 have HR0 := Aside0.mk hr0
 have HC0 := Aside0.mk hc0
 clear hr0 hc0
 have BK25 := Aside0.mk hg1_0_
 clear hg1_0_
 have HB := Aside0.mk (Below.refl w.heap.size w)
 have H : (slices_IndexFunc_impl_Rule_impl_Rule_at_impl_kindOf_1.l0 k l0 (l0.length : Int) 0 a1_0_0) = some r := h
 clear h
 have H' := Aside0.mk H
 clear H
 go_enter Try.func146, Try.ntmps146
 go_wp2
 go_loopg [8] k (fun kq v8 w' => ∃ (x8_1 : Int), v8 = .int .i64 x8_1 ∧ Aside0 (slices_IndexFunc_impl_Rule_impl_Rule_at_impl_kindOf_1.l0 kq l0 (l0.length : Int) x8_1 a1_0_0 = some r) ∧ Aside0 (kq ≤ k) ∧ Aside0 (w'.heap[g1_0_]? = some (.cells #[.string a1_0_0] 9 (0, 0))) ∧ Aside0 (Below w.heap.size w w'))
 case atStart => exact ⟨(0), Xr, H', Xkr, BK25, ⟨Xi⟩⟩
 case round =>
  clear H'
  obtain ⟨x8_1, rfl, HA, HK1, BK25, HB⟩ := hrel
  cases gk with
  | zero => cases HA.out
  | succ k1 =>
   have H := HA.out
   clear HA
   simp only [slices_IndexFunc_impl_Rule_impl_Rule_at_impl_kindOf_1.l0] at H
   obtain ⟨c3b0, H⟩ | ⟨c3b0, H⟩ := Xit H
   ·obtain ⟨c4b0, H⟩ := Xid H
    obtain ⟨c5b0, H⟩ := Xid H
    obtain ⟨t210, A6, H⟩ := Xbi H
    (try dsimp only at H)
    have HC7 := Aside0.mk H
    clear H
    obtain ⟨ad209, A209_2, c209_2, e209, p209, q209, hx209_0, hx209_1, hx209_2, HC209_2, HR209_2⟩ := at_B97 HR0 x8_1 Xa Xa HB
    cases e209
    go_upto_if 16 with (first | (go_at_call 147; (with_reducible refine (impl_kindOf_1.calls ((rd_T97 l0 x8_1).f0) ((rd_T97 l0 x8_1).f1) _ _ ((rd_T97 l0 x8_1).f2) g1_0_ a1_0_0 t210 _ ?side1 ?side2 ?side3 A6.out).mono ?_); (case side1 => exact Xc HR209_2); (case side2 => exact HC209_2.out); (case side3 => exact BK25.out); rintro e w8 ⟨rfl, hb⟩; replace BK25 := Xbb BK25 hb; replace HB := Aside0.mk (below_step Xi hb); clear hb))
    have H := HC7.out
    clear HC7
    by_cases c9 : t210 = true
    ·subst c9
     (first | rw [if_pos rfl] at H | skip)
     obtain rfl := Option.some.inj H
     go_wp2
     go_ret
     exact ⟨Xe, Xi⟩
    ·replace c9 := Bool.eq_false_iff.mpr c9
     subst c9
     (first | rw [if_neg (show ¬ (false = true) by decide)] at H | skip)
     have H' := Aside0.mk H
     clear H
     go_wp2
     go_roundg k1
     case measure => have := HK1.out; omega
     case rel => exact ⟨(wrap64 (x8_1 + 1)), Xr, H', Xk1, BK25, ⟨Xi⟩⟩
   ·obtain rfl := Option.some.inj H
    go_wp2
    go_ret
    exact ⟨Xe, Xi⟩

/-! ### impl_kindOf: function 116 -/
def impl_kindOf.f (k : Nat) (l0 : List (S97)) (a1 : ByteArray) : Option (Int) := (slices_IndexFunc_impl_Rule_impl_Rule_at_impl_kindOf_1.f k l0 a1).bind fun t212 => (some (wrap64 (t212 + 1)))
set_option maxHeartbeats 8000000 in
set_option maxRecDepth 100000 in
theorem impl_kindOf.calls (k : Nat) (A0 : Option Addr) (c0 : Nat) (l0 : List (S97)) (a1 : ByteArray) (r : Int) (w : World) (hr0 : Kd.C k97 w A0 l0.length l0) (hc0 : l0.length ≤ c0) (h : impl_kindOf.f k l0 a1 = some r) :
  Calls Try.prog 116 #[.slice A0 l0.length c0, .string a1] w fun e w' => e = .returned (.int .i64 r) ∧ Below w.heap.size w w' := by
 have HR0 := Aside0.mk hr0
 have HC0 := Aside0.mk hc0
 clear hr0 hc0
 have HB := Aside0.mk (Below.refl w.heap.size w)
 have H : ((slices_IndexFunc_impl_Rule_impl_Rule_at_impl_kindOf_1.f k l0 a1).bind fun t212 => (some (wrap64 (t212 + 1)))) = some r := h
 clear h
 obtain ⟨t212, A3, H⟩ := Xbi H
 (try dsimp only at H)
 obtain rfl := Option.some.inj H
 go_enter Try.func116, Try.ntmps116
 go_wp2_with (first | ((with_reducible refine gate_dst (N := 3) rfl ?_); refine Xbox 3 #[.string a1] 9 ?_; intro gb211 hg w4 hbox hb; have BK211 := Aside0.mk (hbox); have GE211 := Xge hg Xi; replace HB := Aside0.mk (below_step Xi hb); clear hb hbox hg) | ((with_reducible refine gate_callee (f := 146) rfl ?_); refine Xgo 7 Try.func146 #[.slice A0 l0.length c0, .func (.func 147) #[] #[.pointer (some ⟨gb211, 0, none⟩)]] ?_; (with_reducible refine (slices_IndexFunc_impl_Rule_impl_Rule_at_impl_kindOf_1.calls k _ _ l0 gb211 a1 t212 _ ?side1 ?side2 ?side3 A3.out).mono ?_); (case side1 => exact Xc HR0); (case side2 => exact HC0.out); (case side3 => exact BK211.out); rintro e w5 ⟨rfl, hb⟩; refine ⟨_, rfl, ?_⟩; replace BK211 := Xbb BK211 hb; replace HB := Aside0.mk (below_step Xi hb); clear hb))
 go_ret
 exact ⟨Xe, Xi⟩

/-! ### impl_SchemaOK: function 69 -/
def impl_SchemaOK.l0 : Nat → List (S97) → List (S97) → Int → Int → Option (Bool)
 | 0, _, _, _, _ => none
 | k + 1, x0, x9, x10, x11 => if x11 < x10 then (if 0 ≤ x11 then (if x11 < (x9.length : Int) then ((impl_RuleOK.f k ((rd_T97 x9 x11).f0) ((rd_T97 x9 x11).f1) ((rd_T97 x9 x11).f2) (x0.length : Int)).bind fun t216 => (if t216 = true then ((impl_kindOf.f k x0 ((rd_T97 x9 x11).f0)).bind fun t217 => (if t217 = (wrap64 (x11 + 1)) then (impl_SchemaOK.l0 k x0 x9 x10 (wrap64 (x11 + 1))) else (some false))) else (some false))) else (none)) else (none)) else (some true)
def impl_SchemaOK.f (k : Nat) (l0 : List (S97)) : Option (Bool) := (impl_within.f (l0.length : Int) 1 8).bind fun t213 => (if t213 = true then (impl_SchemaOK.l0 k l0 l0 (l0.length : Int) 0) else (some false))
set_option maxHeartbeats 8000000 in
set_option maxRecDepth 100000 in
theorem impl_SchemaOK.calls (k : Nat) (A0 : Option Addr) (c0 : Nat) (l0 : List (S97)) (r : Bool) (w : World) (hr0 : Kd.C k97 w A0 l0.length l0) (hc0 : l0.length ≤ c0) (h : impl_SchemaOK.f k l0 = some r) :
  Calls Try.prog 69 #[.slice A0 l0.length c0] w fun e w' => e = .returned (.bool r) ∧ Below w.heap.size w w' := by
 have hu97 := Try.underlying97
 have HR0 := Aside0.mk hr0
 have HC0 := Aside0.mk hc0
 clear hr0 hc0
 have HB := Aside0.mk (Below.refl w.heap.size w)
 have H : ((impl_within.f (l0.length : Int) 1 8).bind fun t213 => (if t213 = true then (impl_SchemaOK.l0 k l0 l0 (l0.length : Int) 0) else (some false))) = some r := h
 clear h
 obtain ⟨t213, A2, H⟩ := Xbi H
 (try dsimp only at H)
 have HC3 := Aside0.mk H
 clear H
 go_enter Try.func69, Try.ntmps69
 go_upto_if 8 with (first | ((with_reducible refine gate_callee (f := 107) rfl ?_); refine Xgo 7 Try.func107 #[.int .i64 (l0.length : Int), .int .i64 1, .int .i64 8] ?_; (with_reducible refine (impl_within.calls (l0.length : Int) 1 8 t213 _ A2.out).mono ?_); rintro e w' ⟨rfl, ⟨nd, rfl⟩⟩; refine ⟨_, rfl, ?_⟩))
 have H := HC3.out
 clear HC3
 by_cases c4 : t213 = true
 ·subst c4
  (first | rw [if_pos rfl] at H | skip)
  have H' := Aside0.mk H
  clear H
  go_wp2
  go_loopg [11] k (fun kq v11 w' => ∃ (x11_1 : Int), v11 = .int .i64 x11_1 ∧ Aside0 (impl_SchemaOK.l0 kq l0 l0 (l0.length : Int) x11_1 = some r) ∧ Aside0 (kq ≤ k) ∧ Aside0 (Below w.heap.size w w'))
  case atStart => exact ⟨(0), Xr, H', Xkr, ⟨Xi⟩⟩
  case round =>
   clear H'
   (try clear c4)
   obtain ⟨x11_1, rfl, HA, HK1, HB⟩ := hrel
   cases gk with
   | zero => cases HA.out
   | succ k1 =>
    have H := HA.out
    clear HA
    simp only [impl_SchemaOK.l0] at H
    obtain ⟨c5b0, H⟩ | ⟨c5b0, H⟩ := Xit H
    ·(first | rw [c5b0] | (simp only [i64_w, i32_w]; rw [c5b0]) | skip)
     obtain ⟨c6b0, H⟩ := Xid H
     obtain ⟨c7b0, H⟩ := Xid H
     have HC8 := Aside0.mk H
     clear H
     obtain ⟨ad214, A214_2, c214_2, e214, p214, q214, hx214_0, hx214_1, hx214_2, HC214_2, HR214_2⟩ := at_B97 HR0 x11_1 Xa Xa HB
     cases e214
     go_upto_region 6 with (first | ((with_reducible refine gate_dst (N := 4) rfl ?_); refine Xbox 4 #[.string (⟨#[]⟩ : ByteArray), .bool false, .slice none 0 0] 97 ?_; intro gb215 hg w9 hbox hb; have BK215 := Aside0.mk (hbox); have GE215 := Xge hg Xi; replace HB := Aside0.mk (below_step Xi hb); clear hb hbox hg; obtain ⟨hcz10_0, hcz10_1, hcz10_2⟩ := Xc3 BK215; obtain ⟨hfz10_0, hfz10_1, hfz10_2⟩ := Xf3 BK215) | ((with_reducible refine gate_store (t := 97) (p := 4) rfl ?_); refine store_event (t := 97) (p := 4) (v := ?vo_w11) (w1 := (((w9.setCell ⟨gb215, 0, none⟩ (.string ((rd_T97 l0 x11_1).f0))).setCell ⟨gb215, 1, none⟩ (.bool ((rd_T97 l0 x11_1).f1))).setCell ⟨gb215, 2, none⟩ (.slice A214_2 ((rd_T97 l0 x11_1).f2).length c214_2))) ?hg ?ho ?hn ?hr ?_; (case ho => rfl); (case hg => rfl); (case hn => rfl); (case hr => first | (go_simp; done) | (go_simp; rfl)); intro w11 hw; have n0_ : Aside0 (w11.heap[gb215]? = some (.cells #[.string ((rd_T97 l0 x11_1).f0), .bool ((rd_T97 l0 x11_1).f1), .slice A214_2 ((rd_T97 l0 x11_1).f2).length c214_2] 97 (0, 0))) := ⟨(by rw [hw]; exact (by (with_reducible repeat (first | refine blk_drewN ?_ _ | refine blk_drew ?_ | refine blk_alloc ?_ _)); refine blk_put (cs := #[.string ((rd_T97 l0 x11_1).f0), .bool ((rd_T97 l0 x11_1).f1), .slice none 0 0]) ?_ 2 _ rfl; (with_reducible repeat (first | refine blk_drewN ?_ _ | refine blk_drew ?_ | refine blk_alloc ?_ _)); refine blk_put (cs := #[.string ((rd_T97 l0 x11_1).f0), .bool false, .slice none 0 0]) ?_ 1 _ rfl; (with_reducible repeat (first | refine blk_drewN ?_ _ | refine blk_drew ?_ | refine blk_alloc ?_ _)); refine blk_put (cs := #[.string (⟨#[]⟩ : ByteArray), .bool false, .slice none 0 0]) ?_ 0 _ rfl; (with_reducible repeat (first | refine blk_drewN ?_ _ | refine blk_drew ?_ | refine blk_alloc ?_ _)); exact BK215.out))⟩; have n1_ : Aside0 (Below w.heap.size w w11) := ⟨(by rw [hw]; exact Xi)⟩; clear hw; clear BK215; clear HB; have BK215 := n0_; have HB := n1_; clear n0_ n1_))
     have H := HC8.out
     clear HC8
     obtain ⟨t216, A12, H⟩ := Xbi H
     (try dsimp only at H)
     by_cases c13 : t216 = true
     ·subst c13
      (first | rw [if_pos rfl] at H | skip)
      obtain ⟨t217, A14, H⟩ := Xbi H
      (try dsimp only at H)
      have HC15 := Aside0.mk H
      clear H
      obtain ⟨hcz16_0, hcz16_1, hcz16_2⟩ := Xc3 BK215
      obtain ⟨hfz16_0, hfz16_1, hfz16_2⟩ := Xf3 BK215
      go_upto_if 29 with (first | ((with_reducible refine gate_callee (f := 115) rfl ?_); refine Xgo 19 Try.func115 #[.agg #[.string ((rd_T97 l0 x11_1).f0), .bool ((rd_T97 l0 x11_1).f1), .slice A214_2 ((rd_T97 l0 x11_1).f2).length c214_2], .int .i64 (l0.length : Int)] ?_; (with_reducible refine (impl_RuleOK.calls k1 ((rd_T97 l0 x11_1).f0) ((rd_T97 l0 x11_1).f1) _ _ ((rd_T97 l0 x11_1).f2) (l0.length : Int) true _ ?side1 ?side2 A12.out).mono ?_); (case side1 => exact Xc HR214_2); (case side2 => exact HC214_2.out); rintro e w17 ⟨rfl, hb⟩; refine ⟨_, rfl, ?_⟩; replace BK215 := Xbb BK215 hb; replace HB := Aside0.mk (below_step Xi hb); clear hb; obtain ⟨hcz18_0, hcz18_1, hcz18_2⟩ := Xc3 BK215; obtain ⟨hfz18_0, hfz18_1, hfz18_2⟩ := Xf3 BK215) | (go_at_call 116; (with_reducible refine (impl_kindOf.calls k1 _ _ l0 ((rd_T97 l0 x11_1).f0) t217 _ ?side1 ?side2 A14.out).mono ?_); (case side1 => exact Xc HR0); (case side2 => exact HC0.out); rintro e w19 ⟨rfl, hb⟩; replace BK215 := Xbb BK215 hb; replace HB := Aside0.mk (below_step Xi hb); clear hb))
      have H := HC15.out
      clear HC15
      obtain ⟨c20, H⟩ | ⟨c20, H⟩ := Xiu H
      ·have c20b0 : (t217 == (wrap64 (x11_1 + 1))) = true := beq_iff_eq.mpr c20
       have c20b1 : (t217 != (wrap64 (x11_1 + 1))) = false := bne_eq_false_iff_eq.mpr c20
       clear c20
       (first | rw [c20b0] | (simp only [i64_w, i32_w]; rw [c20b0]) | skip)
       have H' := Aside0.mk H
       clear H
       go_wp2
       go_roundg k1
       case measure => have := HK1.out; omega
       case rel => exact ⟨(wrap64 (x11_1 + 1)), Xr, H', Xk1, ⟨Xi⟩⟩
      ·have c20b0 : (t217 == (wrap64 (x11_1 + 1))) = false := beq_eq_false_iff_ne.mpr c20
       have c20b1 : (t217 != (wrap64 (x11_1 + 1))) = true := bne_iff_ne.mpr c20
       (first | rw [c20b0] | (simp only [i64_w, i32_w]; rw [c20b0]) | skip)
       obtain rfl := Option.some.inj H
       go_wp2
       go_ret
       exact ⟨Xe, Xi⟩
     ·replace c13 := Bool.eq_false_iff.mpr c13
      subst c13
      (first | rw [if_neg (show ¬ (false = true) by decide)] at H | skip)
      obtain rfl := Option.some.inj H
      obtain ⟨hcz21_0, hcz21_1, hcz21_2⟩ := Xc3 BK215
      obtain ⟨hfz21_0, hfz21_1, hfz21_2⟩ := Xf3 BK215
      go_wp2_with (first | ((with_reducible refine gate_callee (f := 115) rfl ?_); refine Xgo 19 Try.func115 #[.agg #[.string ((rd_T97 l0 x11_1).f0), .bool ((rd_T97 l0 x11_1).f1), .slice A214_2 ((rd_T97 l0 x11_1).f2).length c214_2], .int .i64 (l0.length : Int)] ?_; (with_reducible refine (impl_RuleOK.calls k1 ((rd_T97 l0 x11_1).f0) ((rd_T97 l0 x11_1).f1) _ _ ((rd_T97 l0 x11_1).f2) (l0.length : Int) false _ ?side1 ?side2 A12.out).mono ?_); (case side1 => exact Xc HR214_2); (case side2 => exact HC214_2.out); rintro e w22 ⟨rfl, hb⟩; refine ⟨_, rfl, ?_⟩; replace BK215 := Xbb BK215 hb; replace HB := Aside0.mk (below_step Xi hb); clear hb))
      go_ret
      exact ⟨Xe, Xi⟩
    ·(first | rw [c5b0] | (simp only [i64_w, i32_w]; rw [c5b0]) | skip)
     obtain rfl := Option.some.inj H
     go_wp2
     go_ret
     exact ⟨Xe, Xi⟩
 ·replace c4 := Bool.eq_false_iff.mpr c4
  subst c4
  (first | rw [if_neg (show ¬ (false = true) by decide)] at H | skip)
  obtain rfl := Option.some.inj H
  go_wp2
  go_ret
  exact ⟨Xe, Xi⟩

end Go.Proofs.Ythkbgbkglgmpoaa.XA
