/- Contracts of the program's functions: each Go function that is named below comes to what its Lean function says. Written by xprint.py (a program of this session's, over the kit's print). Conditions: each contract's own premises. -/
import Derived.Test.YtomlmcimlojmoaaYSameSchema0
import Derived.Test.YtomlmcimlojmoaaYSameSchema1
import Derived.Test.YtomlmcimlojmoaaYSameSchema4
import Derived.Test.YtomlmcimlojmoaaYSameSchema5
import Derived.Test.YtomlmcimlojmoaaYSameSchema7
import Derived.Test.YtomlmcimlojmoaaYSameSchema8
namespace Go.Proofs.Ytomlmcimlojmoaa.XA
open Go.RowKit Go.Proofs.YtomlmcimlojmoaaW.PrintWords Go.Proofs.YtomlmcimlojmoaaW.PrintLast Go.Proofs.YtomlmcimlojmoaaW.PrintMore XW
attribute [local go_sem] max2_int min2_int max_two min_two max_three min_three max_four min_four   -- for this text's walks alone
set_option linter.unusedVariables false
set_option linter.unusedSimpArgs false

/-! ### laws_eqRuleS: function 13 -/
def laws_eqRuleS.l0 : Nat → List (S80) → List (S80) → Int → Option (Bool)
 | 0, _, _, _ => none
 | k + 1, x0, x1, x5 => if x5 < (x0.length : Int) then (if 0 ≤ x5 then (if x5 < (x1.length : Int) then ((laws_eqRule.f k ((rd_T80 x0 x5).f0) ((rd_T80 x0 x5).f1) ((rd_T80 x0 x5).f2) ((rd_T80 x1 x5).f0) ((rd_T80 x1 x5).f1) ((rd_T80 x1 x5).f2)).bind fun t276 => (if t276 = true then (laws_eqRuleS.l0 k x0 x1 (wrap64 (x5 + 1))) else (some false))) else (none)) else (none)) else (some true)
def laws_eqRuleS.f (k : Nat) (l0 : List (S80)) (l1 : List (S80)) : Option (Bool) := if (l0.length : Int) = (l1.length : Int) then (laws_eqRuleS.l0 k l0 l1 0) else (some false)
def laws_eqRuleS.T6 : Bool × List (List Nat × List Nat) := (true, [([], []), ([], []), ([0, 1], [0, 1]), ([2], [2]), ([], []), ([], []), ([4, 5], [4, 5]), ([6], [6]), ([3, 7], [3, 7]), ([8], [8])])
def laws_eqRuleS.B6 : List Nat := [0, 0, 3, 7, 0, 0, 48, 112, 255, 511]
theorem laws_eqRuleS.tab6 : rtab .any (opsOf Try.f13 6) = laws_eqRuleS.T6 := by kernel_rfl
theorem laws_eqRuleS.bits6 : waitsOk laws_eqRuleS.T6.2 laws_eqRuleS.B6 = true := by kernel_rfl
set_option maxHeartbeats 8000000 in
set_option maxRecDepth 100000 in
theorem laws_eqRuleS.calls (k : Nat) (A0 : Option Addr) (c0 : Nat) (l0 : List (S80)) (A1 : Option Addr) (c1 : Nat) (l1 : List (S80)) (r : Bool) (w : World) (hr0 : Kd.C k80 w A0 l0.length l0) (hc0 : l0.length ≤ c0) (hr1 : Kd.C k80 w A1 l1.length l1) (hc1 : l1.length ≤ c1) (h : laws_eqRuleS.f k l0 l1 = some r) :
  Calls Try.prog 13 #[.slice A0 l0.length c0, .slice A1 l1.length c1] w fun e w' => e = .returned (.bool r) ∧ Below w.heap.size w w' := by
 have hu80 := Try.underlying80
 have HR0 := Aside0.mk hr0
 have HC0 := Aside0.mk hc0
 clear hr0 hc0
 have HR1 := Aside0.mk hr1
 have HC1 := Aside0.mk hc1
 clear hr1 hc1
 have HB := Aside0.mk (Below.refl w.heap.size w)
 have H : (if (l0.length : Int) = (l1.length : Int) then (laws_eqRuleS.l0 k l0 l1 0) else (some false)) = some r := h
 clear h
 obtain ⟨c3, H⟩ | ⟨c3, H⟩ := Xiu H
 ·have c3b0 : ((l0.length : Int) == (l1.length : Int)) = true := beq_iff_eq.mpr c3
  have c3b1 : ((l0.length : Int) != (l1.length : Int)) = false := bne_eq_false_iff_eq.mpr c3
  have c3b2 : (l0.length == l1.length) = true := by first | simpa using c3 | (simp at c3 ⊢; omega)
  clear c3
  have H' := Aside0.mk H
  clear H
  go_enter Try.func13, Try.ntmps13
  go_wp2
  go_loopg [5] k (fun kq v5 w' => ∃ (x5_1 : Int), v5 = .int .i64 x5_1 ∧ Aside0 (laws_eqRuleS.l0 kq l0 l1 x5_1 = some r) ∧ Aside0 (kq ≤ k) ∧ Aside0 (Below w.heap.size w w'))
  case atStart => exact ⟨(0), Xr, H', Xkr, ⟨Xi⟩⟩
  case round =>
   clear H'
   (try clear c1); (try clear c3); (try clear c3b0); (try clear c3b1); (try clear c3b2)
   obtain ⟨x5_1, rfl, HA, HK1, HB⟩ := hrel
   cases gk with
   | zero => cases HA.out
   | succ k1 =>
    have H := HA.out
    clear HA
    simp only [laws_eqRuleS.l0] at H
    obtain ⟨c4b0, H⟩ | ⟨c4b0, H⟩ := Xit H
    ·obtain ⟨c5b0, H⟩ := Xid H
     obtain ⟨c6b0, H⟩ := Xid H
     obtain ⟨t276, A7, H⟩ := Xbi H
     (try dsimp only at H)
     have HC8 := Aside0.mk H
     clear H
     try go_wp2_with (fail)
     replace HB := Aside0.mk (below_drew1 HB.out)
     have p274 : 0 ≤ (x5_1 : Int) := of_decide_eq_true Xa
     have q274 : x5_1 < (l0.length : Int) := of_decide_eq_true Xa
     obtain ⟨ad274, A274_2, c274_2, e274, hx274_0, hx274_1, hx274_2, hl274_2, hi274_2⟩ := at_T80 HR0.out x5_1 p274 q274
     have hw274_2 := hx274_2
     have hw274_1 := hx274_1
     have hw274_0 := hx274_0
     cases e274
     replace hx274_0 := Xm HB hx274_0
     replace hx274_1 := Xm HB hx274_1
     replace hx274_2 := Xm HB hx274_2
     have HR274_2 := Aside0.mk hi274_2
     have HC274_2 := Aside0.mk hl274_2
     clear hi274_2 hl274_2
     replace p274 := eq_true p274
     replace q274 := eq_true q274
     have p275 : 0 ≤ (x5_1 : Int) := of_decide_eq_true Xa
     have q275 : x5_1 < (l1.length : Int) := of_decide_eq_true Xa
     obtain ⟨ad275, A275_2, c275_2, e275, hx275_0, hx275_1, hx275_2, hl275_2, hi275_2⟩ := at_T80 HR1.out x5_1 p275 q275
     have hw275_2 := hx275_2
     have hw275_1 := hx275_1
     have hw275_0 := hx275_0
     cases e275
     replace hx275_0 := Xm HB hx275_0
     replace hx275_1 := Xm HB hx275_1
     replace hx275_2 := Xm HB hx275_2
     have HR275_2 := Aside0.mk hi275_2
     have HC275_2 := Aside0.mk hl275_2
     clear hi275_2 hl275_2
     replace p275 := eq_true p275
     replace q275 := eq_true q275
     refine start_ (n := 10) (S := fun w' => w'.cell? (ad274.add ((x5_1).toNat * 3)) = some (.string ((rd_T80 l0 x5_1).f0)) ∧ w'.cell? ⟨(ad274.add ((x5_1).toNat * 3)).block, (ad274.add ((x5_1).toNat * 3)).off + 1, none⟩ = some (.bool ((rd_T80 l0 x5_1).f1)) ∧ w'.cell? ⟨(ad274.add ((x5_1).toNat * 3)).block, (ad274.add ((x5_1).toNat * 3)).off + 2, none⟩ = some (.slice A274_2 ((rd_T80 l0 x5_1).f2).length c274_2) ∧ w'.cell? (ad275.add ((x5_1).toNat * 3)) = some (.string ((rd_T80 l1 x5_1).f0)) ∧ w'.cell? ⟨(ad275.add ((x5_1).toNat * 3)).block, (ad275.add ((x5_1).toNat * 3)).off + 1, none⟩ = some (.bool ((rd_T80 l1 x5_1).f1)) ∧ w'.cell? ⟨(ad275.add ((x5_1).toNat * 3)).block, (ad275.add ((x5_1).toNat * 3)).off + 2, none⟩ = some (.slice A275_2 ((rd_T80 l1 x5_1).f2).length c275_2)) (ds := []) #[false, false, false, false, false, false, false, false, false, false] (by kernel_rfl) rfl rfl ⟨Xn hw274_0, Xn hw274_1, Xn hw274_2, Xn hw275_0, Xn hw275_1, Xn hw275_2⟩ (fun hHeld => ?_); refine with_tabW laws_eqRuleS.tab6 laws_eqRuleS.bits6 (fun HT_ HW_ => ?_)
     generalize wr.drew = w9 at HB HR274_2 HR275_2 hx274_0 hx274_1 hx274_2 hx275_0 hx275_1 hx275_2 hHeld ⊢
     refine Xpu 0 17 (XW.bs 10 1) HT_.out ?_
     refine Xpu 1 18 (XW.bs 10 3) HT_.out ?_
     refine Xpu 2 19 (XW.bs 10 7) HT_.out ?_
     refine Xpu 4 21 (XW.bs 10 23) HT_.out ?_
     refine Xpu 5 22 (XW.bs 10 55) HT_.out ?_
     refine Xpu 6 23 (XW.bs 10 119) HT_.out ?_
     refine Xta 3 20 (XW.bs 10 127) HT_.out HW_.out hHeld ?_
     refine Xta 7 24 (XW.bs 10 255) HT_.out HW_.out hHeld ?_
     refine one_ (i := 8) (N := some 25) (XW.bs 10 511) rfl rfl (one_of HT_.out (by kernel_rfl)) (by decide) (fun K hK => ?_)
     refine goes_ Try.func52 (by kernel_rfl) rfl #[.agg #[.string ((rd_T80 l0 x5_1).f0), .bool ((rd_T80 l0 x5_1).f1), .slice A274_2 ((rd_T80 l0 x5_1).f2).length c274_2], .agg #[.string ((rd_T80 l1 x5_1).f0), .bool ((rd_T80 l1 x5_1).f1), .slice A275_2 ((rd_T80 l1 x5_1).f2).length c275_2]] (by rfl) rfl rfl (by (try simp only [List.map_toArray, List.map_cons, List.map_nil]); first | done | rfl | (simp only [List.length_drop, List.length_take]; rfl)) ?_
     with_reducible refine (laws_eqRule.calls k1 ((rd_T80 l0 x5_1).f0) ((rd_T80 l0 x5_1).f1) _ _ ((rd_T80 l0 x5_1).f2) ((rd_T80 l1 x5_1).f0) ((rd_T80 l1 x5_1).f1) _ _ ((rd_T80 l1 x5_1).f2) t276 _ ?side1 ?side2 ?side3 ?side4 A7.out).mono ?_
     (case side1 => exact Xc HR274_2)
     (case side2 => exact HC274_2.out)
     (case side3 => exact Xc HR275_2)
     (case side4 => exact HC275_2.out)
     rintro e w10 ⟨rfl, hb⟩
     refine ⟨_, rfl, ?_⟩
     replace HB := Aside0.mk (below_step Xi hb)
     (try clear hb)
     (try clear hb2)
     (try clear hk)
     (try clear hi)
     refine hK.out _ _ ⟨Xn hw274_0, Xn hw274_1, Xn hw274_2, Xn hw275_0, Xn hw275_1, Xn hw275_2⟩ (fun hHeld => ?_)
     clear hK K
     refine Xno ?_
     refine Xpu 9 26 (XW.bs 10 1023) HT_.out ?_
     refine done_ (done_of HT_.out (by kernel_rfl)) ?_
     go_upto_if 26 with (fail)
     have H := HC8.out
     clear HC8
     by_cases c11 : t276 = true
     ·subst c11
      (first | rw [if_pos rfl] at H | skip)
      have H' := Aside0.mk H
      clear H
      go_wp2
      go_roundg k1
      case measure => have := HK1.out; omega
      case rel => exact ⟨(wrap64 (x5_1 + 1)), Xr, H', Xk1, ⟨Xi⟩⟩
     ·replace c11 := Bool.eq_false_iff.mpr c11
      subst c11
      (first | rw [if_neg (show ¬ (false = true) by decide)] at H | skip)
      obtain rfl := Option.some.inj H
      go_wp2
      go_ret
      exact ⟨Xe, Xi⟩
    ·obtain rfl := Option.some.inj H
     go_wp2
     go_ret
     exact ⟨Xe, Xi⟩
 ·have c3b0 : ((l0.length : Int) == (l1.length : Int)) = false := beq_eq_false_iff_ne.mpr c3
  have c3b1 : ((l0.length : Int) != (l1.length : Int)) = true := bne_iff_ne.mpr c3
  have c3b2 : (l0.length == l1.length) = false := by first | simpa using c3 | (simp at c3 ⊢; omega)
  obtain rfl := Option.some.inj H
  go_enter Try.func13, Try.ntmps13
  go_wp2
  go_ret
  exact ⟨Xe, Xi⟩

/-! ### laws_FnExactSameSchema: function 3 -/
def laws_FnExactSameSchema.f (k : Nat) (l0 : List (S76)) (l1 : List (S76)) : Option (Bool) := (laws_szRuleS.f k l0 1048576).bind fun t277 => (if t277 < 0 then (some true) else ((laws_szRuleS.f k l1 t277).bind fun t278 => (if t278 < 0 then (some true) else ((laws_toRuleS.f k l0).bind fun t279 => ((laws_toRuleS.f k l1).bind fun t282 => ((spec_SameSchema.f k t279 t282).bind fun t285 => ((laws_toRuleS.f k l0).bind fun t286 => ((laws_toRuleS.f k l1).bind fun t289 => ((impl_SameSchema.f k t286 t289).bind fun t292 => (if (t292 != t285) = true then (some false) else ((laws_toRuleS.f k l0).bind fun t293 => ((laws_eqRuleS.f k t286 t293).bind fun t296 => (if t296 = true then ((laws_toRuleS.f k l1).bind fun t297 => ((laws_eqRuleS.f k t289 t297).bind fun t300 => (if t300 = true then (some true) else (some false)))) else (some false))))))))))))))
set_option maxHeartbeats 8000000 in
set_option maxRecDepth 100000 in
theorem laws_FnExactSameSchema.calls (k : Nat) (A0 : Option Addr) (c0 : Nat) (l0 : List (S76)) (A1 : Option Addr) (c1 : Nat) (l1 : List (S76)) (r : Bool) (w : World) (hr0 : Kd.C k76 w A0 l0.length l0) (hc0 : l0.length ≤ c0) (hr1 : Kd.C k76 w A1 l1.length l1) (hc1 : l1.length ≤ c1) (hr_ : r = true) (h : laws_FnExactSameSchema.f k l0 l1 = some r) :
  Calls Try.prog 3 #[.slice A0 l0.length c0, .slice A1 l1.length c1] w fun e w' => e = .returned (.bool r) ∧ Below w.heap.size w w' := by
 subst hr_
 have HR0 := Aside0.mk hr0
 have HC0 := Aside0.mk hc0
 clear hr0 hc0
 have HR1 := Aside0.mk hr1
 have HC1 := Aside0.mk hc1
 clear hr1 hc1
 have HB := Aside0.mk (Below.refl w.heap.size w)
 have H : ((laws_szRuleS.f k l0 1048576).bind fun t277 => (if t277 < 0 then (some true) else ((laws_szRuleS.f k l1 t277).bind fun t278 => (if t278 < 0 then (some true) else ((laws_toRuleS.f k l0).bind fun t279 => ((laws_toRuleS.f k l1).bind fun t282 => ((spec_SameSchema.f k t279 t282).bind fun t285 => ((laws_toRuleS.f k l0).bind fun t286 => ((laws_toRuleS.f k l1).bind fun t289 => ((impl_SameSchema.f k t286 t289).bind fun t292 => (if (t292 != t285) = true then (some false) else ((laws_toRuleS.f k l0).bind fun t293 => ((laws_eqRuleS.f k t286 t293).bind fun t296 => (if t296 = true then ((laws_toRuleS.f k l1).bind fun t297 => ((laws_eqRuleS.f k t289 t297).bind fun t300 => (if t300 = true then (some true) else (some false)))) else (some false))))))))))))))) = some true := h
 clear h
 obtain ⟨t277, A3, H⟩ := Xbi H
 (try dsimp only at H)
 have HC4 := Aside0.mk H
 clear H
 go_enter Try.func3, Try.ntmps3
 go_upto_if 14 with (first | ((with_reducible refine gate_callee (f := 9) rfl ?_); refine Xgo 12 Try.func9 #[.slice A0 l0.length c0, .int .i64 1048576] ?_; (with_reducible refine (laws_szRuleS.calls k _ _ l0 1048576 t277 _ ?side1 ?side2 A3.out).mono ?_); (case side1 => repeat (first | exact HR0.out | (with_reducible first | refine Kd.C_alloc ?_ _ | refine Kd.C_drewN ?_ _ | refine Kd.C_drew ?_))); (case side2 => exact HC0.out); rintro e w5 ⟨rfl, hb⟩; refine ⟨_, rfl, ?_⟩; replace HB := Aside0.mk (below_step Xi hb); clear hb))
 have H := HC4.out
 clear HC4
 obtain ⟨c6b0, H⟩ | ⟨c6b0, H⟩ := Xit H
 ·(first | rw [c6b0] | (simp only [i64_w, i32_w]; rw [c6b0]) | skip)
  go_wp2
  go_ret
  exact ⟨Xe, Xi⟩
 ·(first | rw [c6b0] | (simp only [i64_w, i32_w]; rw [c6b0]) | skip)
  obtain ⟨t278, A7, H⟩ := Xbi H
  (try dsimp only at H)
  have HC8 := Aside0.mk H
  clear H
  go_upto_if 19 with (first | ((with_reducible refine gate_callee (f := 9) rfl ?_); refine Xgo 17 Try.func9 #[.slice A1 l1.length c1, .int .i64 t277] ?_; (with_reducible refine (laws_szRuleS.calls k _ _ l1 t277 t278 _ ?side1 ?side2 A7.out).mono ?_); (case side1 => exact Xc HR1); (case side2 => exact HC1.out); rintro e w9 ⟨rfl, hb⟩; refine ⟨_, rfl, ?_⟩; replace HB := Aside0.mk (below_step Xi hb); clear hb))
  have H := HC8.out
  clear HC8
  obtain ⟨c10b0, H⟩ | ⟨c10b0, H⟩ := Xit H
  ·(first | rw [c10b0] | (simp only [i64_w, i32_w]; rw [c10b0]) | skip)
   go_wp2
   go_ret
   exact ⟨Xe, Xi⟩
  ·(first | rw [c10b0] | (simp only [i64_w, i32_w]; rw [c10b0]) | skip)
   obtain ⟨t279, A11, H⟩ := Xbi H
   (try dsimp only at H)
   obtain ⟨t282, A12, H⟩ := Xbi H
   (try dsimp only at H)
   obtain ⟨t285, A13, H⟩ := Xbi H
   (try dsimp only at H)
   obtain ⟨t286, A14, H⟩ := Xbi H
   (try dsimp only at H)
   obtain ⟨t289, A15, H⟩ := Xbi H
   (try dsimp only at H)
   obtain ⟨t292, A16, H⟩ := Xbi H
   (try dsimp only at H)
   have HC17 := Aside0.mk H
   clear H
   go_upto_if 34 with (first | ((with_reducible refine gate_callee (f := 11) rfl ?_); refine Xgo 21 Try.func11 #[.slice A0 l0.length c0] ?_; (with_reducible refine (laws_toRuleS.calls k _ _ l0 t279 _ ?side1 ?side2 A11.out).mono ?_); (case side1 => exact Xc HR0); (case side2 => exact HC0.out); rintro e w18 ⟨v280, rfl, ho0, hb⟩; refine ⟨_, rfl, ?_⟩; have HO281 := Aside0.mk (Kd.R_lower ho0 (below_size Xi)); replace HB := Aside0.mk (below_step Xi hb); clear hb; (try clear ho0)) | ((with_reducible refine gate_callee (f := 11) rfl ?_); refine Xgo 23 Try.func11 #[.slice A1 l1.length c1] ?_; (with_reducible refine (laws_toRuleS.calls k _ _ l1 t282 _ ?side1 ?side2 A12.out).mono ?_); (case side1 => exact Xc HR1); (case side2 => exact HC1.out); rintro e w19 ⟨v283, rfl, ho0, hb⟩; refine ⟨_, rfl, ?_⟩; have HO284 := Aside0.mk (Kd.R_lower (Kd.R_new' ho0 (Kd.R_lt (Xq HO281))) (below_size Xi)); replace HO281 := Aside0.mk (Kd.R_elder' (Xq HO281) (Kd.R_base ho0) hb); replace HB := Aside0.mk (below_step Xi hb); clear hb; (try clear ho0); obtain ⟨Ao20, co20, eo20⟩ := Kd.R_slice HO281.out; subst eo20; obtain ⟨Ao21, co21, eo21⟩ := Kd.R_slice HO284.out; subst eo21) | ((with_reducible refine gate_callee (f := 10) rfl ?_); refine Xgo 24 Try.func10 #[.slice Ao20 t279.length co20, .slice Ao21 t282.length co21] ?_; (with_reducible refine (spec_SameSchema.calls k _ _ t279 _ _ t282 t285 _ ?side1 ?side2 ?side3 ?side4 A13.out).mono ?_); (case side1 => repeat (first | exact (Kd.R_reads' HO281.out).2.2 | (with_reducible first | refine Kd.C_alloc ?_ _ | refine Kd.C_drewN ?_ _ | refine Kd.C_drew ?_))); (case side2 => exact (Kd.R_reads' HO281.out).2.1); (case side3 => repeat (first | exact (Kd.R_reads' HO284.out).2.2 | (with_reducible first | refine Kd.C_alloc ?_ _ | refine Kd.C_drewN ?_ _ | refine Kd.C_drew ?_))); (case side4 => exact (Kd.R_reads' HO284.out).2.1); rintro e w22 ⟨rfl, hb⟩; refine ⟨_, rfl, ?_⟩; replace HO281 := Aside0.mk (Kd.R_below (Xq HO281) hb); replace HO284 := Aside0.mk (Kd.R_below (Xq HO284) hb); replace HB := Aside0.mk (below_step Xi hb); clear hb) | ((with_reducible refine gate_callee (f := 11) rfl ?_); refine Xgo 26 Try.func11 #[.slice A0 l0.length c0] ?_; (with_reducible refine (laws_toRuleS.calls k _ _ l0 t286 _ ?side1 ?side2 A14.out).mono ?_); (case side1 => exact Xc HR0); (case side2 => exact HC0.out); rintro e w23 ⟨v287, rfl, ho0, hb⟩; refine ⟨_, rfl, ?_⟩; have HO288 := Aside0.mk (Kd.R_lower (Kd.R_new' (Kd.R_new' ho0 (Kd.R_lt (Xq HO281))) (Kd.R_lt (Xq HO284))) (below_size Xi)); replace HO281 := Aside0.mk (Kd.R_elder' (Xq HO281) (Kd.R_base ho0) hb); replace HO284 := Aside0.mk (Kd.R_elder' (Xq HO284) (Kd.R_base ho0) hb); replace HB := Aside0.mk (below_step Xi hb); clear hb; (try clear ho0)) | ((with_reducible refine gate_callee (f := 11) rfl ?_); refine Xgo 28 Try.func11 #[.slice A1 l1.length c1] ?_; (with_reducible refine (laws_toRuleS.calls k _ _ l1 t289 _ ?side1 ?side2 A15.out).mono ?_); (case side1 => exact Xc HR1); (case side2 => exact HC1.out); rintro e w24 ⟨v290, rfl, ho0, hb⟩; refine ⟨_, rfl, ?_⟩; have HO291 := Aside0.mk (Kd.R_lower (Kd.R_new' (Kd.R_new' (Kd.R_new' ho0 (Kd.R_lt (Xq HO281))) (Kd.R_lt (Xq HO284))) (Kd.R_lt (Xq HO288))) (below_size Xi)); replace HO281 := Aside0.mk (Kd.R_elder' (Xq HO281) (Kd.R_base ho0) hb); replace HO284 := Aside0.mk (Kd.R_elder' (Xq HO284) (Kd.R_base ho0) hb); replace HO288 := Aside0.mk (Kd.R_elder' (Xq HO288) (Kd.R_base ho0) hb); replace HB := Aside0.mk (below_step Xi hb); clear hb; (try clear ho0); obtain ⟨Ao25, co25, eo25⟩ := Kd.R_slice HO288.out; subst eo25; obtain ⟨Ao26, co26, eo26⟩ := Kd.R_slice HO291.out; subst eo26) | ((with_reducible refine gate_callee (f := 12) rfl ?_); refine Xgo 31 Try.func12 #[.slice Ao25 t286.length co25, .slice Ao26 t289.length co26] ?_; (with_reducible refine (impl_SameSchema.calls k _ _ t286 _ _ t289 t292 _ ?side1 ?side2 ?side3 ?side4 A16.out).mono ?_); (case side1 => repeat (first | exact (Kd.R_reads' HO288.out).2.2 | (with_reducible first | refine Kd.C_alloc ?_ _ | refine Kd.C_drewN ?_ _ | refine Kd.C_drew ?_))); (case side2 => exact (Kd.R_reads' HO288.out).2.1); (case side3 => repeat (first | exact (Kd.R_reads' HO291.out).2.2 | (with_reducible first | refine Kd.C_alloc ?_ _ | refine Kd.C_drewN ?_ _ | refine Kd.C_drew ?_))); (case side4 => exact (Kd.R_reads' HO291.out).2.1); rintro e w27 ⟨rfl, hb⟩; refine ⟨_, rfl, ?_⟩; replace HO281 := Aside0.mk (Kd.R_below (Xq HO281) hb); replace HO284 := Aside0.mk (Kd.R_below (Xq HO284) hb); replace HO288 := Aside0.mk (Kd.R_below (Xq HO288) hb); replace HO291 := Aside0.mk (Kd.R_below (Xq HO291) hb); replace HB := Aside0.mk (below_step Xi hb); clear hb))
   have H := HC17.out
   clear HC17
   obtain ⟨c28, H⟩ | ⟨c28, H⟩ := Xiu H
   ·have c28b0 : (t292 != t285) = true := c28
    (try (have c28b1 : decide (t292 = t285) = false := by simpa using c28))
    (try (have c28b2 : (t292 == t285) = false := by simpa using c28))
    (try (have c28b3 : ¬ (t292 = t285) := by simpa using c28))
    (try (have c28b4 : ((!t292) == t285) = true := by revert c28; cases t292 <;> cases t285 <;> simp))
    clear c28
    (first | rw [c28b0] | (simp only [i64_w, i32_w]; rw [c28b0]) | simp only [c28b2, Bool.not_true, Bool.not_false] | skip)
    cases H
   ·have c28b0 : (t292 != t285) = false := by simpa using c28
    (try (have c28b1 : decide (t292 = t285) = true := by simpa using c28))
    (try (have c28b2 : (t292 == t285) = true := by simpa using c28))
    (try (have c28b3 : ((!t292) == t285) = false := by revert c28; cases t292 <;> cases t285 <;> simp))
    clear c28
    (first | rw [c28b0] | (simp only [i64_w, i32_w]; rw [c28b0]) | simp only [c28b2, Bool.not_true, Bool.not_false] | skip)
    obtain ⟨t293, A29, H⟩ := Xbi H
    (try dsimp only at H)
    obtain ⟨t296, A30, H⟩ := Xbi H
    (try dsimp only at H)
    have HC31 := Aside0.mk H
    clear H
    go_upto_if 39 with (first | ((with_reducible refine gate_callee (f := 11) rfl ?_); refine Xgo 37 Try.func11 #[.slice A0 l0.length c0] ?_; (with_reducible refine (laws_toRuleS.calls k _ _ l0 t293 _ ?side1 ?side2 A29.out).mono ?_); (case side1 => exact Xc HR0); (case side2 => exact HC0.out); rintro e w32 ⟨v294, rfl, ho0, hb⟩; refine ⟨_, rfl, ?_⟩; have HO295 := Aside0.mk (Kd.R_lower (Kd.R_new' (Kd.R_new' (Kd.R_new' (Kd.R_new' ho0 (Kd.R_lt (Xq HO281))) (Kd.R_lt (Xq HO284))) (Kd.R_lt (Xq HO288))) (Kd.R_lt (Xq HO291))) (below_size Xi)); replace HO281 := Aside0.mk (Kd.R_elder' (Xq HO281) (Kd.R_base ho0) hb); replace HO284 := Aside0.mk (Kd.R_elder' (Xq HO284) (Kd.R_base ho0) hb); replace HO288 := Aside0.mk (Kd.R_elder' (Xq HO288) (Kd.R_base ho0) hb); replace HO291 := Aside0.mk (Kd.R_elder' (Xq HO291) (Kd.R_base ho0) hb); replace HB := Aside0.mk (below_step Xi hb); clear hb; (try clear ho0); obtain ⟨Ao33, co33, eo33⟩ := Kd.R_slice HO295.out; subst eo33) | ((with_reducible refine gate_callee (f := 13) rfl ?_); refine Xgo 38 Try.func13 #[.slice Ao25 t286.length co25, .slice Ao33 t293.length co33] ?_; (with_reducible refine (laws_eqRuleS.calls k _ _ t286 _ _ t293 t296 _ ?side1 ?side2 ?side3 ?side4 A30.out).mono ?_); (case side1 => repeat (first | exact (Kd.R_reads' HO288.out).2.2 | (with_reducible first | refine Kd.C_alloc ?_ _ | refine Kd.C_drewN ?_ _ | refine Kd.C_drew ?_))); (case side2 => exact (Kd.R_reads' HO288.out).2.1); (case side3 => repeat (first | exact (Kd.R_reads' HO295.out).2.2 | (with_reducible first | refine Kd.C_alloc ?_ _ | refine Kd.C_drewN ?_ _ | refine Kd.C_drew ?_))); (case side4 => exact (Kd.R_reads' HO295.out).2.1); rintro e w34 ⟨rfl, hb⟩; refine ⟨_, rfl, ?_⟩; replace HO281 := Aside0.mk (Kd.R_below (Xq HO281) hb); replace HO284 := Aside0.mk (Kd.R_below (Xq HO284) hb); replace HO288 := Aside0.mk (Kd.R_below (Xq HO288) hb); replace HO291 := Aside0.mk (Kd.R_below (Xq HO291) hb); replace HO295 := Aside0.mk (Kd.R_below (Xq HO295) hb); replace HB := Aside0.mk (below_step Xi hb); clear hb))
    have H := HC31.out
    clear HC31
    by_cases c35 : t296 = true
    ·subst c35
     (first | rw [if_pos rfl] at H | skip)
     obtain ⟨t297, A36, H⟩ := Xbi H
     (try dsimp only at H)
     obtain ⟨t300, A37, H⟩ := Xbi H
     (try dsimp only at H)
     have HC38 := Aside0.mk H
     clear H
     go_upto_if 44 with (first | ((with_reducible refine gate_callee (f := 11) rfl ?_); refine Xgo 42 Try.func11 #[.slice A1 l1.length c1] ?_; (with_reducible refine (laws_toRuleS.calls k _ _ l1 t297 _ ?side1 ?side2 A36.out).mono ?_); (case side1 => exact Xc HR1); (case side2 => exact HC1.out); rintro e w39 ⟨v298, rfl, ho0, hb⟩; refine ⟨_, rfl, ?_⟩; have HO299 := Aside0.mk (Kd.R_lower (Kd.R_new' (Kd.R_new' (Kd.R_new' (Kd.R_new' (Kd.R_new' ho0 (Kd.R_lt (Xq HO281))) (Kd.R_lt (Xq HO284))) (Kd.R_lt (Xq HO288))) (Kd.R_lt (Xq HO291))) (Kd.R_lt (Xq HO295))) (below_size Xi)); replace HO281 := Aside0.mk (Kd.R_elder' (Xq HO281) (Kd.R_base ho0) hb); replace HO284 := Aside0.mk (Kd.R_elder' (Xq HO284) (Kd.R_base ho0) hb); replace HO288 := Aside0.mk (Kd.R_elder' (Xq HO288) (Kd.R_base ho0) hb); replace HO291 := Aside0.mk (Kd.R_elder' (Xq HO291) (Kd.R_base ho0) hb); replace HO295 := Aside0.mk (Kd.R_elder' (Xq HO295) (Kd.R_base ho0) hb); replace HB := Aside0.mk (below_step Xi hb); clear hb; (try clear ho0); obtain ⟨Ao40, co40, eo40⟩ := Kd.R_slice HO299.out; subst eo40) | ((with_reducible refine gate_callee (f := 13) rfl ?_); refine Xgo 43 Try.func13 #[.slice Ao26 t289.length co26, .slice Ao40 t297.length co40] ?_; (with_reducible refine (laws_eqRuleS.calls k _ _ t289 _ _ t297 t300 _ ?side1 ?side2 ?side3 ?side4 A37.out).mono ?_); (case side1 => repeat (first | exact (Kd.R_reads' HO291.out).2.2 | (with_reducible first | refine Kd.C_alloc ?_ _ | refine Kd.C_drewN ?_ _ | refine Kd.C_drew ?_))); (case side2 => exact (Kd.R_reads' HO291.out).2.1); (case side3 => repeat (first | exact (Kd.R_reads' HO299.out).2.2 | (with_reducible first | refine Kd.C_alloc ?_ _ | refine Kd.C_drewN ?_ _ | refine Kd.C_drew ?_))); (case side4 => exact (Kd.R_reads' HO299.out).2.1); rintro e w41 ⟨rfl, hb⟩; refine ⟨_, rfl, ?_⟩; replace HO281 := Aside0.mk (Kd.R_below (Xq HO281) hb); replace HO284 := Aside0.mk (Kd.R_below (Xq HO284) hb); replace HO288 := Aside0.mk (Kd.R_below (Xq HO288) hb); replace HO291 := Aside0.mk (Kd.R_below (Xq HO291) hb); replace HO295 := Aside0.mk (Kd.R_below (Xq HO295) hb); replace HO299 := Aside0.mk (Kd.R_below (Xq HO299) hb); replace HB := Aside0.mk (below_step Xi hb); clear hb))
     have H := HC38.out
     clear HC38
     by_cases c42 : t300 = true
     ·subst c42
      (first | rw [if_pos rfl] at H | skip)
      go_wp2
      go_ret
      exact ⟨Xe, Xi⟩
     ·replace c42 := Bool.eq_false_iff.mpr c42
      subst c42
      (first | rw [if_neg (show ¬ (false = true) by decide)] at H | skip)
      cases H
    ·replace c35 := Bool.eq_false_iff.mpr c35
     subst c35
     (first | rw [if_neg (show ¬ (false = true) by decide)] at H | skip)
     cases H

end Go.Proofs.Ytomlmcimlojmoaa.XA
