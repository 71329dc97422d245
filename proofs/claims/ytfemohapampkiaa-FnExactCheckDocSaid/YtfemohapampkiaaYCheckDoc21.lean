/- Contracts of the program's functions: each Go function that is named below comes to what its Lean function says. Written by xprint.py (a program of this session's, over the kit's print). Conditions: each contract's own premises. -/
import Derived.Test.YtfemohapampkiaaYCheckDoc0
import Derived.Test.YtfemohapampkiaaYCheckDoc1
import Derived.Test.YtfemohapampkiaaYCheckDoc2
import Derived.Test.YtfemohapampkiaaYCheckDoc3
import Derived.Test.YtfemohapampkiaaYCheckDoc4
import Derived.Test.YtfemohapampkiaaYCheckDoc14
import Derived.Test.YtfemohapampkiaaYCheckDoc16
import Derived.Test.YtfemohapampkiaaYCheckDoc18
import Derived.Test.YtfemohapampkiaaYCheckDoc20
namespace Go.Proofs.Ytfemohapampkiaa.XA
open Go.RowKit Go.Proofs.YtfemohapampkiaaW.PrintWords Go.Proofs.YtfemohapampkiaaW.PrintLast Go.Proofs.YtfemohapampkiaaW.PrintMore XW
attribute [local go_sem] max2_int min2_int max_two min_two max_three min_three max_four min_four   -- for this text's walks alone
set_option linter.unusedVariables false
set_option linter.unusedSimpArgs false

/-! ### impl_CheckDoc: function 56 -/
def impl_CheckDoc.f (k : Nat) (l0 : List (S120)) (a1_0 : Int) (a1_1 : Int) (l1_2 : List (S88)) : Option (Int × Int) := (impl_isLongList_impl_Rule.f l0).bind fun t434 => (if t434 = true then (some (0, 2)) else ((impl_SchemaOK.f k l0).bind fun t435 => (if t435 = true then ((impl_DocOK.f k a1_0 a1_1 l1_2).bind fun t436 => (if t436 = true then ((impl_checkAll.f k l0 a1_0 a1_1 l1_2).bind fun bt437 => (some (bt437.1, bt437.2))) else (some (0, 1)))) else (some (0, 1)))))
set_option maxHeartbeats 8000000 in
set_option maxRecDepth 100000 in
theorem impl_CheckDoc.calls (k : Nat) (A0 : Option Addr) (c0 : Nat) (l0 : List (S120)) (a1_0 : Int) (a1_1 : Int) (A1_2 : Option Addr) (c1_2 : Nat) (l1_2 : List (S88)) (r1 : Int) (r2 : Int) (w : World) (hr0 : Kd.C k120 w A0 l0.length l0) (hc0 : l0.length ≤ c0) (hr1_2 : Kd.C k88 w A1_2 l1_2.length l1_2) (hc1_2 : l1_2.length ≤ c1_2) (h : impl_CheckDoc.f k l0 a1_0 a1_1 l1_2 = some (r1, r2)) :
  Calls Try.prog 56 #[.slice A0 l0.length c0, .agg #[.int .i64 a1_0, .int .i64 a1_1, .slice A1_2 l1_2.length c1_2]] w fun e w' => e = .returned (.tuple #[.int .i64 r1, .int .i64 r2]) ∧ Below w.heap.size w w' := by
 have hu29 := Try.underlying29
 have HR0 := Aside0.mk hr0
 have HC0 := Aside0.mk hc0
 clear hr0 hc0
 have HR1_2 := Aside0.mk hr1_2
 have HC1_2 := Aside0.mk hc1_2
 clear hr1_2 hc1_2
 have HB := Aside0.mk (Below.refl w.heap.size w)
 have H : ((impl_isLongList_impl_Rule.f l0).bind fun t434 => (if t434 = true then (some (0, 2)) else ((impl_SchemaOK.f k l0).bind fun t435 => (if t435 = true then ((impl_DocOK.f k a1_0 a1_1 l1_2).bind fun t436 => (if t436 = true then ((impl_checkAll.f k l0 a1_0 a1_1 l1_2).bind fun bt437 => (some (bt437.1, bt437.2))) else (some (0, 1)))) else (some (0, 1)))))) = some (r1, r2) := h
 clear h
 obtain ⟨t434, A3, H⟩ := Xbi H
 (try dsimp only at H)
 have HC4 := Aside0.mk H
 clear H
 go_enter Try.func56, Try.ntmps56
 go_upto_if 6 with (first | ((with_reducible refine gate_dst (N := 3) rfl ?_); refine Xbox 3 #[.int .i64 a1_0, .int .i64 a1_1, .slice A1_2 l1_2.length c1_2] 29 ?_; intro gb433 hg w5 hbox hb; have BK433 := Aside0.mk (hbox); have GE433 := Xge hg Xi; replace HB := Aside0.mk (below_step Xi hb); clear hb hbox hg) | ((with_reducible refine gate_callee (f := 113) rfl ?_); refine Xgo 8 Try.func113 #[.slice A0 l0.length c0] ?_; (with_reducible refine (impl_isLongList_impl_Rule.calls _ _ l0 t434 _ ?side1 ?side2 A3.out).mono ?_); (case side1 => exact Xc HR0); (case side2 => exact HC0.out); rintro e w' ⟨rfl, ⟨nd, rfl⟩⟩; refine ⟨_, rfl, ?_⟩))
 have H := HC4.out
 clear HC4
 by_cases c6 : t434 = true
 ·subst c6
  (first | rw [if_pos rfl] at H | skip)
  simp only [Option.some.injEq, Prod.mk.injEq] at H
  obtain ⟨rfl, rfl⟩ := H
  go_wp2
  go_ret2
  exact ⟨Xe, Xi⟩
 ·replace c6 := Bool.eq_false_iff.mpr c6
  subst c6
  (first | rw [if_neg (show ¬ (false = true) by decide)] at H | skip)
  obtain ⟨t435, A7, H⟩ := Xbi H
  (try dsimp only at H)
  by_cases c8 : t435 = true
  ·subst c8
   (first | rw [if_pos rfl] at H | skip)
   obtain ⟨t436, A9, H⟩ := Xbi H
   (try dsimp only at H)
   have HC10 := Aside0.mk H
   clear H
   go_upto_if 9 with (first | ((with_reducible refine gate_callee (f := 43) rfl ?_); refine Xgo 11 Try.func43 #[.slice A0 l0.length c0] ?_; (with_reducible refine (impl_SchemaOK.calls k _ _ l0 true _ ?side1 ?side2 A7.out).mono ?_); (case side1 => exact Xc HR0); (case side2 => exact HC0.out); rintro e w11 ⟨rfl, hb⟩; refine ⟨_, rfl, ?_⟩; replace BK433 := Xbb BK433 hb; replace HB := Aside0.mk (below_step Xi hb); clear hb; obtain ⟨hcz12_0, hcz12_1, hcz12_2⟩ := Xc3 BK433) | (go_at_call 16; (with_reducible refine (impl_DocOK.calls k a1_0 a1_1 _ _ l1_2 t436 _ ?side1 ?side2 A9.out).mono ?_); (case side1 => exact Xc HR1_2); (case side2 => exact HC1_2.out); rintro e w13 ⟨rfl, hb⟩; replace BK433 := Xbb BK433 hb; replace HB := Aside0.mk (below_step Xi hb); clear hb))
   have H := HC10.out
   clear HC10
   by_cases c14 : t436 = true
   ·subst c14
    (first | rw [if_pos rfl] at H | skip)
    replace H := Option.bind_eq_some_iff.mp H
    obtain ⟨⟨t437, t438⟩, A150, H⟩ := H
    (try dsimp only at H)
    have A15 := Aside0.mk A150
    clear A150
    simp only [Option.some.injEq, Prod.mk.injEq] at H
    obtain ⟨rfl, rfl⟩ := H
    go_wp2_with (first | ((with_reducible refine gate_callee (f := 114) rfl ?_); refine Xgo 19 Try.func114 #[.slice A0 l0.length c0, .pointer (some ⟨gb433, 0, none⟩)] ?_; (with_reducible refine (impl_checkAll.calls k _ _ l0 gb433 a1_0 a1_1 A1_2 c1_2 l1_2 t437 t438 _ ?side1 ?side2 ?side3 ?side4 ?side5 A15.out).mono ?_); (case side1 => exact Xc HR0); (case side2 => exact HC0.out); (case side3 => exact BK433.out); (case side4 => exact Xc HR1_2); (case side5 => exact HC1_2.out); rintro e w16 ⟨rfl, hb⟩; refine ⟨_, rfl, ?_⟩; replace BK433 := Xbb BK433 hb; replace HB := Aside0.mk (below_step Xi hb); clear hb))
    go_ret2
    exact ⟨Xe, Xi⟩
   ·replace c14 := Bool.eq_false_iff.mpr c14
    subst c14
    (first | rw [if_neg (show ¬ (false = true) by decide)] at H | skip)
    simp only [Option.some.injEq, Prod.mk.injEq] at H
    obtain ⟨rfl, rfl⟩ := H
    go_wp2
    go_ret2
    exact ⟨Xe, Xi⟩
  ·replace c8 := Bool.eq_false_iff.mpr c8
   subst c8
   (first | rw [if_neg (show ¬ (false = true) by decide)] at H | skip)
   simp only [Option.some.injEq, Prod.mk.injEq] at H
   obtain ⟨rfl, rfl⟩ := H
   go_wp2_with (first | ((with_reducible refine gate_callee (f := 43) rfl ?_); refine Xgo 11 Try.func43 #[.slice A0 l0.length c0] ?_; (with_reducible refine (impl_SchemaOK.calls k _ _ l0 false _ ?side1 ?side2 A7.out).mono ?_); (case side1 => exact Xc HR0); (case side2 => exact HC0.out); rintro e w17 ⟨rfl, hb⟩; refine ⟨_, rfl, ?_⟩; replace BK433 := Xbb BK433 hb; replace HB := Aside0.mk (below_step Xi hb); clear hb))
   go_ret2
   exact ⟨Xe, Xi⟩

/-! ### laws_FnExactCheckDoc: function 12 -/
def laws_FnExactCheckDoc.j0 : Nat → List (S118) → List (S120) → Bool → Int → Int → List (S138) → Int → Int → List (S88) → Option (Bool)
 | 0, _, _, _, _, _, _, _, _, _ => none
 | k + 1, x0, x8, x47, x440000, x440001, x440002, x461000, x461001, x461002 => if x47 = true then (some false) else ((laws_toRuleS.f k x0).bind fun t463 => ((laws_eqRuleS.f k x8 t463).bind fun t466 => (if t466 = true then ((laws_toDoc.f k x440000 x440001 x440002).bind fun bt467 => ((laws_eqDoc.f k x461000 x461001 x461002 bt467.1 bt467.2.1 bt467.2.2).bind fun t472 => (if t472 = true then (some true) else (some false)))) else (some false))))
def laws_FnExactCheckDoc.f (k : Nat) (l0 : List (S118)) (a1_0 : Int) (a1_1 : Int) (l1_2 : List (S138)) : Option (Bool) := (laws_szRuleS.f k l0 1048576).bind fun t440 => (if t440 < 0 then (some true) else ((laws_szDoc.f k a1_0 a1_1 l1_2 t440).bind fun t441 => (if t441 < 0 then (some true) else ((laws_toRuleS.f k l0).bind fun t442 => ((laws_toDoc.f k a1_0 a1_1 l1_2).bind fun bt445 => ((spec_CheckDoc.f k t442 bt445.1 bt445.2.1 bt445.2.2).bind fun bt450 => ((laws_toRuleS.f k l0).bind fun t452 => ((laws_toDoc.f k a1_0 a1_1 l1_2).bind fun bt455 => ((impl_CheckDoc.f k t452 bt455.1 bt455.2.1 bt455.2.2).bind fun bt461 => (if bt461.1 = bt450.1 then (laws_FnExactCheckDoc.j0 k l0 t452 (bt461.2 != bt450.2) a1_0 a1_1 l1_2 bt455.1 bt455.2.1 bt455.2.2) else (laws_FnExactCheckDoc.j0 k l0 t452 true a1_0 a1_1 l1_2 bt455.1 bt455.2.1 bt455.2.2)))))))))))
def laws_FnExactCheckDoc.T8 : Bool × List (List Nat × List Nat) := (true, [([], []), ([0], [0]), ([], []), ([2, 1], [2]), ([1, 3, 3], [1, 3]), ([4], [4]), ([5], [5]), ([5], [5]), ([6, 4, 0, 1, 2, 3, 4, 5, 6], [6]), ([7, 8, 0, 1, 2, 3, 4, 5, 6, 7, 8], [7])])
def laws_FnExactCheckDoc.B8 : List Nat := [0, 1, 0, 7, 15, 31, 63, 63, 127, 511]
theorem laws_FnExactCheckDoc.tab8 : rtab .any (opsOf Try.f12 8) = laws_FnExactCheckDoc.T8 := by kernel_rfl
theorem laws_FnExactCheckDoc.bits8 : waitsOk laws_FnExactCheckDoc.T8.2 laws_FnExactCheckDoc.B8 = true := by kernel_rfl
set_option maxHeartbeats 8000000 in
set_option maxRecDepth 100000 in
theorem laws_FnExactCheckDoc.calls (k : Nat) (A0 : Option Addr) (c0 : Nat) (l0 : List (S118)) (a1_0 : Int) (a1_1 : Int) (A1_2 : Option Addr) (c1_2 : Nat) (l1_2 : List (S138)) (r : Bool) (w : World) (hr0 : Kd.C k118 w A0 l0.length l0) (hc0 : l0.length ≤ c0) (hr1_2 : Kd.C k138 w A1_2 l1_2.length l1_2) (hc1_2 : l1_2.length ≤ c1_2) (hr_ : r = true) (h : laws_FnExactCheckDoc.f k l0 a1_0 a1_1 l1_2 = some r) :
  Calls Try.prog 12 #[.slice A0 l0.length c0, .agg #[.int .i64 a1_0, .int .i64 a1_1, .slice A1_2 l1_2.length c1_2]] w fun e w' => e = .returned (.bool r) ∧ Below w.heap.size w w' := by
 subst hr_
 have hu24 := Try.underlying24
 have hu29 := Try.underlying29
 have HR0 := Aside0.mk hr0
 have HC0 := Aside0.mk hc0
 clear hr0 hc0
 have HR1_2 := Aside0.mk hr1_2
 have HC1_2 := Aside0.mk hc1_2
 clear hr1_2 hc1_2
 have HB := Aside0.mk (Below.refl w.heap.size w)
 have H : ((laws_szRuleS.f k l0 1048576).bind fun t440 => (if t440 < 0 then (some true) else ((laws_szDoc.f k a1_0 a1_1 l1_2 t440).bind fun t441 => (if t441 < 0 then (some true) else ((laws_toRuleS.f k l0).bind fun t442 => ((laws_toDoc.f k a1_0 a1_1 l1_2).bind fun bt445 => ((spec_CheckDoc.f k t442 bt445.1 bt445.2.1 bt445.2.2).bind fun bt450 => ((laws_toRuleS.f k l0).bind fun t452 => ((laws_toDoc.f k a1_0 a1_1 l1_2).bind fun bt455 => ((impl_CheckDoc.f k t452 bt455.1 bt455.2.1 bt455.2.2).bind fun bt461 => (if bt461.1 = bt450.1 then (laws_FnExactCheckDoc.j0 k l0 t452 (bt461.2 != bt450.2) a1_0 a1_1 l1_2 bt455.1 bt455.2.1 bt455.2.2) else (laws_FnExactCheckDoc.j0 k l0 t452 true a1_0 a1_1 l1_2 bt455.1 bt455.2.1 bt455.2.2)))))))))))) = some true := h
 clear h
 obtain ⟨t440, A3, H⟩ := Xbi H
 (try dsimp only at H)
 have HC4 := Aside0.mk H
 clear H
 go_enter Try.func12, Try.ntmps12
 go_upto_if 16 with (first | ((with_reducible refine gate_dst (N := 3) rfl ?_); refine Xbox 3 #[.int .i64 a1_0, .int .i64 a1_1, .slice A1_2 l1_2.length c1_2] 24 ?_; intro gb439 hg w5 hbox hb; have BK439 := Aside0.mk (hbox); have GE439 := Xge hg Xi; replace HB := Aside0.mk (below_step Xi hb); clear hb hbox hg) | ((with_reducible refine gate_callee (f := 40) rfl ?_); refine Xgo 14 Try.func40 #[.slice A0 l0.length c0, .int .i64 1048576] ?_; (with_reducible refine (laws_szRuleS.calls k _ _ l0 1048576 t440 _ ?side1 ?side2 A3.out).mono ?_); (case side1 => exact Xc HR0); (case side2 => exact HC0.out); rintro e w6 ⟨rfl, hb⟩; refine ⟨_, rfl, ?_⟩; replace BK439 := Xbb BK439 hb; replace HB := Aside0.mk (below_step Xi hb); clear hb))
 have H := HC4.out
 clear HC4
 obtain ⟨c7b0, H⟩ | ⟨c7b0, H⟩ := Xit H
 ·(first | rw [c7b0] | (simp only [i64_w, i32_w]; rw [c7b0]) | skip)
  go_wp2
  go_ret
  exact ⟨Xe, Xi⟩
 ·(first | rw [c7b0] | (simp only [i64_w, i32_w]; rw [c7b0]) | skip)
  obtain ⟨t441, A8, H⟩ := Xbi H
  (try dsimp only at H)
  have HC9 := Aside0.mk H
  clear H
  obtain ⟨hcz10_0, hcz10_1, hcz10_2⟩ := Xc3 BK439
  obtain ⟨hfz10_0, hfz10_1, hfz10_2⟩ := Xf3 BK439
  go_upto_if 21 with (first | ((with_reducible refine gate_callee (f := 13) rfl ?_); refine Xgo 19 Try.func13 #[.agg #[.int .i64 a1_0, .int .i64 a1_1, .slice A1_2 l1_2.length c1_2], .int .i64 t440] ?_; (with_reducible refine (laws_szDoc.calls k a1_0 a1_1 _ _ l1_2 t440 t441 _ ?side1 ?side2 A8.out).mono ?_); (case side1 => exact Xc HR1_2); (case side2 => exact HC1_2.out); rintro e w11 ⟨rfl, hb⟩; refine ⟨_, rfl, ?_⟩; replace BK439 := Xbb BK439 hb; replace HB := Aside0.mk (below_step Xi hb); clear hb))
  have H := HC9.out
  clear HC9
  obtain ⟨c12b0, H⟩ | ⟨c12b0, H⟩ := Xit H
  ·(first | rw [c12b0] | (simp only [i64_w, i32_w]; rw [c12b0]) | skip)
   go_wp2
   go_ret
   exact ⟨Xe, Xi⟩
  ·(first | rw [c12b0] | (simp only [i64_w, i32_w]; rw [c12b0]) | skip)
   obtain ⟨t442, A13, H⟩ := Xbi H
   (try dsimp only at H)
   replace H := Option.bind_eq_some_iff.mp H
   obtain ⟨⟨t445, t446, t447⟩, A140, H⟩ := H
   (try dsimp only at H)
   have A14 := Aside0.mk A140
   clear A140
   replace H := Option.bind_eq_some_iff.mp H
   obtain ⟨⟨t450, t451⟩, A150, H⟩ := H
   (try dsimp only at H)
   have A15 := Aside0.mk A150
   clear A150
   obtain ⟨t452, A16, H⟩ := Xbi H
   (try dsimp only at H)
   replace H := Option.bind_eq_some_iff.mp H
   obtain ⟨⟨t455, t456, t457⟩, A170, H⟩ := H
   (try dsimp only at H)
   have A17 := Aside0.mk A170
   clear A170
   replace H := Option.bind_eq_some_iff.mp H
   obtain ⟨⟨t461, t462⟩, A180, H⟩ := H
   (try dsimp only at H)
   have A18 := Aside0.mk A180
   clear A180
   have HC19 := Aside0.mk H
   clear H
   try go_wp2
   replace BK439 := Aside0.mk (blk_drew BK439.out)
   replace HB := Aside0.mk (below_drew1 HB.out)
   refine start_ (n := 10) (S := fun w' => w'.cell? ⟨gb439, 0, none⟩ = some (.int .i64 a1_0) ∧ w'.cell? ⟨gb439, 1, none⟩ = some (.int .i64 a1_1) ∧ w'.cell? ⟨gb439, 2, none⟩ = some (.slice A1_2 l1_2.length c1_2)) (ds := []) #[false, false, false, false, false, false, false, false, false, false] (by kernel_rfl) rfl rfl ⟨(blk_cell BK439.out 0).trans rfl, (blk_cell BK439.out 1).trans rfl, (blk_cell BK439.out 2).trans rfl⟩ (fun hHeld => ?_); refine with_tabW laws_FnExactCheckDoc.tab8 laws_FnExactCheckDoc.bits8 (fun HT_ HW_ => ?_)
   generalize w11.drew = w20 at BK439 HB hHeld ⊢
   refine Xpu 0 23 (XW.bs 10 1) HT_.out ?_
   refine Xta 2 25 (XW.bs 10 5) HT_.out HW_.out hHeld ?_
   refine one_ (i := 1) (N := some 24) (XW.bs 10 7) rfl rfl (one_of HT_.out (by kernel_rfl)) (by decide) (fun K hK => ?_)
   refine goes_ Try.func42 (by kernel_rfl) rfl #[.slice A0 l0.length c0] (by rfl) rfl rfl (by (try simp only [List.map_toArray, List.map_cons, List.map_nil]); first | done | rfl | (simp only [List.length_drop, List.length_take]; rfl)) ?_
   with_reducible refine (laws_toRuleS.calls k _ _ l0 t442 _ ?side1 ?side2 A13.out).mono ?_
   (case side1 => exact Xc HR0)
   (case side2 => exact HC0.out)
   rintro e w21 ⟨v443, rfl, ho0, hb⟩
   refine ⟨_, rfl, ?_⟩
   have HO444 := Aside0.mk (Kd.R_lower ho0 (below_size Xi))
   replace BK439 := Xbb BK439 hb
   replace HB := Aside0.mk (below_step Xi hb)
   (try clear hb)
   (try clear hb2)
   (try clear hk)
   (try clear hi)
   (try clear ho0)
   refine hK.out _ _ ⟨(blk_cell BK439.out 0).trans rfl, (blk_cell BK439.out 1).trans rfl, (blk_cell BK439.out 2).trans rfl⟩ (fun hHeld => ?_)
   clear hK K
   refine Xno ?_
   refine one_ (i := 3) (N := some 26) (XW.bs 10 15) rfl rfl (one_of HT_.out (by kernel_rfl)) (by decide) (fun K hK => ?_)
   refine goes_ Try.func15 (by kernel_rfl) rfl #[.agg #[.int .i64 a1_0, .int .i64 a1_1, .slice A1_2 l1_2.length c1_2]] (by rfl) rfl rfl (by (try simp only [List.map_toArray, List.map_cons, List.map_nil]); first | done | rfl | (simp only [List.length_drop, List.length_take]; rfl)) ?_
   with_reducible refine (laws_toDoc.calls k a1_0 a1_1 _ _ l1_2 t445 t446 t447 _ ?side1 ?side2 A14.out).mono ?_
   (case side1 => exact Xc HR1_2)
   (case side2 => exact HC1_2.out)
   rintro e w22 ⟨v448, rfl, ho0, hb⟩
   refine ⟨_, rfl, ?_⟩
   replace HO444 := Aside0.mk (Kd.R_below (Xq HO444) hb)
   have HO449 := Aside0.mk (Kd.S_lower ho0 (below_size Xi))
   replace BK439 := Xbb BK439 hb
   replace HB := Aside0.mk (below_step Xi hb)
   (try clear hb)
   (try clear hb2)
   (try clear hk)
   (try clear hi)
   (try clear ho0)
   obtain ⟨Ao23, co23, eo23⟩ := Kd.R_slice HO444.out
   (first | subst eo23 | (injection eo23 with f1_ f2_ f3_; have f4_ := f1_.symm; have f5_ := f3_.symm; clear f1_ f2_ f3_; subst f4_; subst f5_))
   obtain ⟨Ao24, co24, eo24⟩ := Kd.S_slice HO449.out
   (first | subst eo24 | (injection eo24 with f1_ f2_ f3_; have f4_ := f1_.symm; have f5_ := f3_.symm; clear f1_ f2_ f3_; subst f4_; subst f5_))
   refine hK.out _ _ ⟨(blk_cell BK439.out 0).trans rfl, (blk_cell BK439.out 1).trans rfl, (blk_cell BK439.out 2).trans rfl⟩ (fun hHeld => ?_)
   clear hK K
   refine Xno ?_
   refine one_ (i := 4) (N := some 27) (XW.bs 10 31) rfl rfl (one_of HT_.out (by kernel_rfl)) (by decide) (fun K hK => ?_)
   refine goes_ Try.func55 (by kernel_rfl) rfl #[.slice Ao23 t442.length co23, .agg #[.int .i64 t445, .int .i64 t446, .slice Ao24 t447.length co24]] (by rfl) rfl rfl (by (try simp only [List.map_toArray, List.map_cons, List.map_nil]); first | done | rfl | (simp only [List.length_drop, List.length_take]; rfl)) ?_
   with_reducible refine (spec_CheckDoc.calls k _ _ t442 t445 t446 _ _ t447 t450 t451 _ ?side1 ?side2 ?side3 ?side4 A15.out).mono ?_
   (case side1 => repeat (first | exact (Kd.R_reads' HO444.out).2.2 | (with_reducible first | refine Kd.C_alloc ?_ _ | refine Kd.C_drewN ?_ _ | refine Kd.C_drew ?_)))
   (case side2 => exact (Kd.R_reads' HO444.out).2.1)
   (case side3 => repeat (first | exact (Kd.S_reads' HO449.out).2.2 | (with_reducible first | refine Kd.C_alloc ?_ _ | refine Kd.C_drewN ?_ _ | refine Kd.C_drew ?_)))
   (case side4 => exact (Kd.S_reads' HO449.out).2.1)
   rintro e w25 ⟨rfl, hb⟩
   refine ⟨_, rfl, ?_⟩
   replace HO444 := Aside0.mk (Kd.R_below (Xq HO444) hb)
   replace HO449 := Aside0.mk (Kd.S_below (Xq HO449) hb)
   replace BK439 := Xbb BK439 hb
   replace HB := Aside0.mk (below_step Xi hb)
   (try clear hb)
   (try clear hb2)
   (try clear hk)
   (try clear hi)
   refine hK.out _ _ ⟨(blk_cell BK439.out 0).trans rfl, (blk_cell BK439.out 1).trans rfl, (blk_cell BK439.out 2).trans rfl⟩ (fun hHeld => ?_)
   clear hK K
   refine Xno ?_
   refine Xpu 5 22 (XW.bs 10 63) HT_.out ?_
   refine Xpu 6 28 (XW.bs 10 127) HT_.out ?_
   refine Xpu 7 29 (XW.bs 10 255) HT_.out ?_
   refine Xpu 8 6 (XW.bs 10 511) HT_.out ?_
   refine Xpu 9 7 (XW.bs 10 1023) HT_.out ?_
   refine done_ (done_of HT_.out (by kernel_rfl)) ?_
   go_upto_region 12 with (first | ((with_reducible refine gate_callee (f := 42) rfl ?_); refine Xgo 31 Try.func42 #[.slice A0 l0.length c0] ?_; (with_reducible refine (laws_toRuleS.calls k _ _ l0 t452 _ ?side1 ?side2 A16.out).mono ?_); (case side1 => exact Xc HR0); (case side2 => exact HC0.out); rintro e w26 ⟨v453, rfl, ho0, hb⟩; refine ⟨_, rfl, ?_⟩; replace HO449 := Aside0.mk (Kd.S_below (Xq HO449) hb); have HO454 := Aside0.mk (Kd.R_lower (Kd.R_new' ho0 (Kd.R_lt (Xq HO444))) (below_size Xi)); replace HO444 := Aside0.mk (Kd.R_elder' (Xq HO444) (Kd.R_base ho0) hb); replace BK439 := Xbb BK439 hb; replace HB := Aside0.mk (below_step Xi hb); clear hb; (try clear ho0); obtain ⟨hcz27_0, hcz27_1, hcz27_2⟩ := Xc3 BK439; obtain ⟨hfz27_0, hfz27_1, hfz27_2⟩ := Xf3 BK439) | ((with_reducible refine gate_callee (f := 15) rfl ?_); refine Xgo 33 Try.func15 #[.agg #[.int .i64 a1_0, .int .i64 a1_1, .slice A1_2 l1_2.length c1_2]] ?_; (with_reducible refine (laws_toDoc.calls k a1_0 a1_1 _ _ l1_2 t455 t456 t457 _ ?side1 ?side2 A17.out).mono ?_); (case side1 => exact Xc HR1_2); (case side2 => exact HC1_2.out); rintro e w28 ⟨v458, rfl, ho0, hb⟩; refine ⟨_, rfl, ?_⟩; replace HO444 := Aside0.mk (Kd.R_below (Xq HO444) hb); replace HO454 := Aside0.mk (Kd.R_below (Xq HO454) hb); have HO459 := Aside0.mk (Kd.S_lower (Kd.S_new' ho0 (Kd.S_lt (Xq HO449))) (below_size Xi)); replace HO449 := Aside0.mk (Kd.S_elder' (Xq HO449) (Kd.S_base ho0) hb); replace BK439 := Xbb BK439 hb; replace HB := Aside0.mk (below_step Xi hb); clear hb; (try clear ho0)) | ((with_reducible refine gate_dst (N := 9) rfl ?_); refine Xbox 9 #[.int .i64 0, .int .i64 0, .slice none 0 0] 29 ?_; intro gb460 hg w29 hbox hb; replace HO444 := Aside0.mk (Kd.R_below (Xq HO444) hb); replace HO449 := Aside0.mk (Kd.S_below (Xq HO449) hb); replace HO454 := Aside0.mk (Kd.R_below (Xq HO454) hb); replace HO459 := Aside0.mk (Kd.S_below (Xq HO459) hb); have BK460 := Aside0.mk (hbox); have GE460 := Xge hg Xi; replace HB := Aside0.mk (below_step Xi hb); have NB439_460 := Xnb hg BK439; have NB460_439 := Xns NB439_460; replace BK439 := Xbb BK439 hb; clear hb hbox hg; have hnb30 := NB460_439.out; have hnc30 := NB439_460.out; obtain ⟨hcz31_0, hcz31_1, hcz31_2⟩ := Xc3 BK460; obtain ⟨hfz31_0, hfz31_1, hfz31_2⟩ := Xf3 BK460; obtain ⟨Ao32, co32, eo32⟩ := Kd.S_slice HO459.out; subst eo32) | ((with_reducible refine gate_store (t := 29) (p := 9) rfl ?_); refine store_event (t := 29) (p := 9) (v := ?vo_w33) (w1 := (((w29.setCell ⟨gb460, 0, none⟩ (.int .i64 t455)).setCell ⟨gb460, 1, none⟩ (.int .i64 t456)).setCell ⟨gb460, 2, none⟩ (.slice Ao32 t457.length co32))) ?hg ?ho ?hn ?hr ?_; (case ho => rfl); (case hg => rfl); (case hn => rfl); (case hr => first | (go_simp; done) | (go_simp; rfl)); intro w33 hw; have n0_ : Aside0 (Kd.R k120 120 w33 w.heap.size (fun k_ => some k_ ≠ (v453 : Value).ownBlock) (.slice Ao23 t442.length co23) t442) := ⟨(by rw [hw]; exact (by (with_reducible repeat (first | apply Kd.R_alloc | apply Kd.R_drewN | apply Kd.R_drew)); exact Kd.R_mono (Kd.R_far (p := ⟨gb460, 2, none⟩) (Kd.R_far (p := ⟨gb460, 1, none⟩) (Kd.R_far (p := ⟨gb460, 0, none⟩) (Kd.R_types HO444.out BK460.out (by decide)) (fun _ hk => hk.2) (.int .i64 t455)) (fun _ hk => hk.2) (.int .i64 t456)) (fun _ hk => hk.2) (.slice Ao32 t457.length co32)) (fun _ hk => hk.1.2)))⟩; have n1_ : Aside0 (Kd.S k88 88 w33 w.heap.size (fun k_ => some k_ ≠ (.slice Ao32 t457.length co32 : Value).ownBlock) (.slice Ao24 t447.length co24) t447) := ⟨(by rw [hw]; exact (by (with_reducible repeat (first | apply Kd.S_alloc | apply Kd.S_drewN | apply Kd.S_drew)); exact Kd.S_mono (Kd.S_far (p := ⟨gb460, 2, none⟩) (Kd.S_far (p := ⟨gb460, 1, none⟩) (Kd.S_far (p := ⟨gb460, 0, none⟩) (Kd.S_types HO449.out BK460.out (by decide)) (fun _ hk => hk.2) (.int .i64 t455)) (fun _ hk => hk.2) (.int .i64 t456)) (fun _ hk => hk.2) (.slice Ao32 t457.length co32)) (fun _ hk => hk.1.2)))⟩; have n2_ : Aside0 (Kd.R k120 120 w33 w.heap.size (fun k_ => some k_ ≠ (.slice Ao23 t442.length co23 : Value).ownBlock) v453 t452) := ⟨(by rw [hw]; exact (by (with_reducible repeat (first | apply Kd.R_alloc | apply Kd.R_drewN | apply Kd.R_drew)); exact Kd.R_mono (Kd.R_far (p := ⟨gb460, 2, none⟩) (Kd.R_far (p := ⟨gb460, 1, none⟩) (Kd.R_far (p := ⟨gb460, 0, none⟩) (Kd.R_types HO454.out BK460.out (by decide)) (fun _ hk => hk.2) (.int .i64 t455)) (fun _ hk => hk.2) (.int .i64 t456)) (fun _ hk => hk.2) (.slice Ao32 t457.length co32)) (fun _ hk => hk.1.2)))⟩; have n3_ : Aside0 (Kd.S k88 88 w33 w.heap.size (fun k_ => some k_ ≠ (.slice Ao24 t447.length co24 : Value).ownBlock) (.slice Ao32 t457.length co32) t457) := ⟨(by rw [hw]; exact (by (with_reducible repeat (first | apply Kd.S_alloc | apply Kd.S_drewN | apply Kd.S_drew)); exact Kd.S_mono (Kd.S_far (p := ⟨gb460, 2, none⟩) (Kd.S_far (p := ⟨gb460, 1, none⟩) (Kd.S_far (p := ⟨gb460, 0, none⟩) (Kd.S_types HO459.out BK460.out (by decide)) (fun _ hk => hk.2) (.int .i64 t455)) (fun _ hk => hk.2) (.int .i64 t456)) (fun _ hk => hk.2) (.slice Ao32 t457.length co32)) (fun _ hk => hk.1.2)))⟩; have n4_ : Aside0 (w33.heap[gb439]? = some (.cells #[.int .i64 a1_0, .int .i64 a1_1, .slice A1_2 l1_2.length c1_2] 24 (0, 0))) := ⟨(by rw [hw]; exact (by (with_reducible repeat (first | refine blk_drewN ?_ _ | refine blk_drew ?_ | refine blk_alloc ?_ _)); refine blk_far ?_ NB439_460.out _; (with_reducible repeat (first | refine blk_drewN ?_ _ | refine blk_drew ?_ | refine blk_alloc ?_ _)); refine blk_far ?_ NB439_460.out _; (with_reducible repeat (first | refine blk_drewN ?_ _ | refine blk_drew ?_ | refine blk_alloc ?_ _)); refine blk_far ?_ NB439_460.out _; (with_reducible repeat (first | refine blk_drewN ?_ _ | refine blk_drew ?_ | refine blk_alloc ?_ _)); exact BK439.out))⟩; have n5_ : Aside0 (w33.heap[gb460]? = some (.cells #[.int .i64 t455, .int .i64 t456, .slice Ao32 t457.length co32] 29 (0, 0))) := ⟨(by rw [hw]; exact (by (with_reducible repeat (first | refine blk_drewN ?_ _ | refine blk_drew ?_ | refine blk_alloc ?_ _)); refine blk_put (cs := #[.int .i64 t455, .int .i64 t456, .slice none 0 0]) ?_ 2 _ rfl; (with_reducible repeat (first | refine blk_drewN ?_ _ | refine blk_drew ?_ | refine blk_alloc ?_ _)); refine blk_put (cs := #[.int .i64 t455, .int .i64 0, .slice none 0 0]) ?_ 1 _ rfl; (with_reducible repeat (first | refine blk_drewN ?_ _ | refine blk_drew ?_ | refine blk_alloc ?_ _)); refine blk_put (cs := #[.int .i64 0, .int .i64 0, .slice none 0 0]) ?_ 0 _ rfl; (with_reducible repeat (first | refine blk_drewN ?_ _ | refine blk_drew ?_ | refine blk_alloc ?_ _)); exact BK460.out))⟩; have n6_ : Aside0 (Below w.heap.size w w33) := ⟨(by rw [hw]; exact Xi)⟩; clear hw; clear HO444; clear HO449; clear HO454; clear HO459; clear BK439; clear BK460; clear HB; have HO444 := n0_; have HO449 := n1_; have HO454 := n2_; have HO459 := n3_; have BK439 := n4_; have BK460 := n5_; have HB := n6_; clear n0_ n1_ n2_ n3_ n4_ n5_ n6_; obtain ⟨hcz34_0, hcz34_1, hcz34_2⟩ := Xc3 BK460; obtain ⟨hfz34_0, hfz34_1, hfz34_2⟩ := Xf3 BK460; obtain ⟨Ao35, co35, eo35⟩ := Kd.R_slice HO454.out; subst eo35) | ((with_reducible refine gate_callee (f := 56) rfl ?_); refine Xgo 37 Try.func56 #[.slice Ao35 t452.length co35, .agg #[.int .i64 t455, .int .i64 t456, .slice Ao32 t457.length co32]] ?_; (with_reducible refine (impl_CheckDoc.calls k _ _ t452 t455 t456 _ _ t457 t461 t462 _ ?side1 ?side2 ?side3 ?side4 A18.out).mono ?_); (case side1 => repeat (first | exact (Kd.R_reads' HO454.out).2.2 | (with_reducible first | refine Kd.C_alloc ?_ _ | refine Kd.C_drewN ?_ _ | refine Kd.C_drew ?_))); (case side2 => exact (Kd.R_reads' HO454.out).2.1); (case side3 => repeat (first | exact (Kd.S_reads' HO459.out).2.2 | (with_reducible first | refine Kd.C_alloc ?_ _ | refine Kd.C_drewN ?_ _ | refine Kd.C_drew ?_))); (case side4 => exact (Kd.S_reads' HO459.out).2.1); rintro e w36 ⟨rfl, hb⟩; refine ⟨_, rfl, ?_⟩; replace HO444 := Aside0.mk (Kd.R_below (Xq HO444) hb); replace HO449 := Aside0.mk (Kd.S_below (Xq HO449) hb); replace HO454 := Aside0.mk (Kd.R_below (Xq HO454) hb); replace HO459 := Aside0.mk (Kd.S_below (Xq HO459) hb); replace BK439 := Xbb BK439 hb; replace BK460 := Xbb BK460 hb; replace HB := Aside0.mk (below_step Xi hb); clear hb))
   (try simp only [XW.q0, XW.q1, XW.q2])
   go_cut [47] (fun v47 wc => ∃ (kq : Nat) (x47_18 : Bool), v47 = .bool x47_18 ∧ Aside0 (laws_FnExactCheckDoc.j0 kq l0 t452 x47_18 a1_0 a1_1 l1_2 t455 t456 t457 = some true) ∧ Aside0 (kq ≤ k) ∧ Aside0 (Kd.R k120 120 wc w.heap.size (fun _ => True) (.slice Ao35 t452.length co35) t452) ∧ Aside0 (Kd.S k88 88 wc w.heap.size (fun _ => True) (.slice Ao32 t457.length co32) t457) ∧ Aside0 (wc.heap[gb439]? = some (.cells #[.int .i64 a1_0, .int .i64 a1_1, (.slice A1_2 l1_2.length c1_2)] 24 (0, 0))) ∧ Aside0 (wc.heap[gb460]? = some (.cells #[.int .i64 t455, .int .i64 t456, (.slice Ao32 t457.length co32)] 29 (0, 0))) ∧ Aside0 (Below w.heap.size w wc))
   case first =>
    have H := HC19.out
    clear HC19
    obtain ⟨c37, H⟩ | ⟨c37, H⟩ := Xiu H
    ·have c37b0 : (t461 == t450) = true := beq_iff_eq.mpr c37
     have c37b1 : (t461 != t450) = false := bne_eq_false_iff_eq.mpr c37
     clear c37
     (first | rw [c37b0] | (simp only [i64_w, i32_w]; rw [c37b0]) | skip)
     have H' := Aside0.mk H
     clear H
     go_wp2
     go_meet
     case rel => exact ⟨_, ((t462 != t451)), Xr, H', Xko, ⟨by (with_reducible repeat (first | apply Kd.R_alloc | apply Kd.R_drewN | apply Kd.R_drew)); exact Kd.R_mono HO454.out (fun _ hk => trivial)⟩, ⟨by (with_reducible repeat (first | apply Kd.S_alloc | apply Kd.S_drewN | apply Kd.S_drew)); exact Kd.S_mono HO459.out (fun _ hk => trivial)⟩, BK439, BK460, ⟨Xi⟩⟩
    ·have c37b0 : (t461 == t450) = false := beq_eq_false_iff_ne.mpr c37
     have c37b1 : (t461 != t450) = true := bne_iff_ne.mpr c37
     (first | rw [c37b0] | (simp only [i64_w, i32_w]; rw [c37b0]) | skip)
     have H' := Aside0.mk H
     clear H
     go_wp2
     go_meet
     case rel => exact ⟨_, (true), Xr, H', Xko, ⟨by (with_reducible repeat (first | apply Kd.R_alloc | apply Kd.R_drewN | apply Kd.R_drew)); exact Kd.R_mono HO454.out (fun _ hk => trivial)⟩, ⟨by (with_reducible repeat (first | apply Kd.S_alloc | apply Kd.S_drewN | apply Kd.S_drew)); exact Kd.S_mono HO459.out (fun _ hk => trivial)⟩, BK439, BK460, ⟨Xi⟩⟩
   case rest =>
    clear HC19
    (try clear c7); (try clear c7b0); (try clear c12); (try clear c12b0); (try clear hcz10_0); (try clear hcz10_1); (try clear hcz10_2); (try clear hcz27_0); (try clear hcz27_1); (try clear hcz27_2); (try clear hcz31_0); (try clear hcz31_1); (try clear hcz31_2); (try clear hcz34_0); (try clear hcz34_1); (try clear hcz34_2); (try clear hfz10_0); (try clear hfz10_1); (try clear hfz10_2); (try clear hfz27_0); (try clear hfz27_1); (try clear hfz27_2); (try clear hfz31_0); (try clear hfz31_1); (try clear hfz31_2); (try clear hfz34_0); (try clear hfz34_1); (try clear hfz34_2)
    obtain ⟨kq, x47_18, rfl, HA, HJ18, HO_8, HO_461002, BK439, BK460, HB⟩ := hcut
    cases kq with
    | zero => cases HA.out
    | succ kj18 =>
     have H := HA.out
     clear HA
     simp only [laws_FnExactCheckDoc.j0] at H
     by_cases c38 : x47_18 = true
     ·subst c38
      (first | rw [if_pos rfl] at H | skip)
      cases H
     ·replace c38 := Bool.eq_false_iff.mpr c38
      subst c38
      (first | rw [if_neg (show ¬ (false = true) by decide)] at H | skip)
      obtain ⟨t463, A39, H⟩ := Xbi H
      (try dsimp only at H)
      obtain ⟨t466, A40, H⟩ := Xbi H
      (try dsimp only at H)
      have HC41 := Aside0.mk H
      clear H
      go_upto_if 52 with (first | ((with_reducible refine gate_callee (f := 42) rfl ?_); refine Xgo 50 Try.func42 #[.slice A0 l0.length c0] ?_; (with_reducible refine (laws_toRuleS.calls kj18 _ _ l0 t463 _ ?side1 ?side2 A39.out).mono ?_); (case side1 => exact Xc HR0); (case side2 => exact HC0.out); rintro e w42 ⟨v464, rfl, ho0, hb⟩; refine ⟨_, rfl, ?_⟩; replace HO_461002 := Aside0.mk (Kd.S_below (Xq HO_461002) hb); have HO465 := Aside0.mk (Kd.R_lower (Kd.R_new' ho0 (Kd.R_lt (Xq HO_8))) (below_size Xi)); replace HO_8 := Aside0.mk (Kd.R_elder' (Xq HO_8) (Kd.R_base ho0) hb); replace BK439 := Xbb BK439 hb; replace BK460 := Xbb BK460 hb; replace HB := Aside0.mk (below_step Xi hb); clear hb; (try clear ho0); obtain ⟨Ao43, co43, eo43⟩ := Kd.R_slice HO465.out; subst eo43) | ((with_reducible refine gate_callee (f := 44) rfl ?_); refine Xgo 51 Try.func44 #[.slice Ao35 t452.length co35, .slice Ao43 t463.length co43] ?_; (with_reducible refine (laws_eqRuleS.calls kj18 _ _ t452 _ _ t463 t466 _ ?side1 ?side2 ?side3 ?side4 A40.out).mono ?_); (case side1 => repeat (first | exact (Kd.R_reads' HO_8.out).2.2 | (with_reducible first | refine Kd.C_alloc ?_ _ | refine Kd.C_drewN ?_ _ | refine Kd.C_drew ?_))); (case side2 => exact (Kd.R_reads' HO_8.out).2.1); (case side3 => repeat (first | exact (Kd.R_reads' HO465.out).2.2 | (with_reducible first | refine Kd.C_alloc ?_ _ | refine Kd.C_drewN ?_ _ | refine Kd.C_drew ?_))); (case side4 => exact (Kd.R_reads' HO465.out).2.1); rintro e w44 ⟨rfl, hb⟩; refine ⟨_, rfl, ?_⟩; replace HO_8 := Aside0.mk (Kd.R_below (Xq HO_8) hb); replace HO_461002 := Aside0.mk (Kd.S_below (Xq HO_461002) hb); replace HO465 := Aside0.mk (Kd.R_below (Xq HO465) hb); replace BK439 := Xbb BK439 hb; replace BK460 := Xbb BK460 hb; replace HB := Aside0.mk (below_step Xi hb); clear hb))
      have H := HC41.out
      clear HC41
      by_cases c45 : t466 = true
      ·subst c45
       (first | rw [if_pos rfl] at H | skip)
       replace H := Option.bind_eq_some_iff.mp H
       obtain ⟨⟨t467, t468, t469⟩, A460, H⟩ := H
       (try dsimp only at H)
       have A46 := Aside0.mk A460
       clear A460
       obtain ⟨t472, A47, H⟩ := Xbi H
       (try dsimp only at H)
       have HC48 := Aside0.mk H
       clear H
       try go_wp2_with (fail)
       replace HO_8 := Aside0.mk (Kd.R_drew HO_8.out)
       replace HO_461002 := Aside0.mk (Kd.S_drew HO_461002.out)
       replace HO465 := Aside0.mk (Kd.R_drew HO465.out)
       replace BK439 := Aside0.mk (blk_drew BK439.out)
       replace BK460 := Aside0.mk (blk_drew BK460.out)
       replace HB := Aside0.mk (below_drew1 HB.out)
       refine start_ (n := 5) (S := fun w' => w'.cell? ⟨gb460, 0, none⟩ = some (.int .i64 t455) ∧ w'.cell? ⟨gb460, 1, none⟩ = some (.int .i64 t456) ∧ w'.cell? ⟨gb460, 2, none⟩ = some (.slice Ao32 t457.length co32) ∧ w'.cell? ⟨gb439, 0, none⟩ = some (.int .i64 a1_0) ∧ w'.cell? ⟨gb439, 1, none⟩ = some (.int .i64 a1_1) ∧ w'.cell? ⟨gb439, 2, none⟩ = some (.slice A1_2 l1_2.length c1_2)) (ds := []) #[false, false, false, false, false] (by kernel_rfl) rfl rfl ⟨(blk_cell BK460.out 0).trans rfl, (blk_cell BK460.out 1).trans rfl, (blk_cell BK460.out 2).trans rfl, (blk_cell BK439.out 0).trans rfl, (blk_cell BK439.out 1).trans rfl, (blk_cell BK439.out 2).trans rfl⟩ (fun hHeld => ?_)
       generalize w44.drew = w49 at HO_8 HO_461002 HO465 BK439 BK460 HB hHeld ⊢
       refine take_ (i := 0) (N := some 53) (v := ?_) (a' := ?_) #[true, false, false, false, false] rfl rfl (by kernel_rfl) (fun _ _ _ h => h) (Or.inl ⟨by rfl, ?_⟩) hHeld ?_ ?_
       rotate_left
       ·rintro w' ⟨s0, s1, s2, s3, s4, s5⟩
        go_simp
        with_reducible rfl
       rotate_left
       ·simp only [XW.q0, XW.q1, XW.q2, i64_w, i32_w]
        rfl
       refine take_ (i := 1) (N := some 54) (v := ?_) (a' := ?_) #[true, true, false, false, false] rfl rfl (by kernel_rfl) (fun _ _ _ h => h) (Or.inl ⟨by rfl, ?_⟩) hHeld ?_ ?_
       rotate_left
       ·rintro w' ⟨s0, s1, s2, s3, s4, s5⟩
        go_simp
        with_reducible rfl
       rotate_left
       ·simp only [XW.q0, XW.q1, XW.q2, i64_w, i32_w]
        rfl
       refine one_ (i := 2) (N := some 55) #[true, true, true, false, false] rfl rfl (by kernel_rfl) (by decide) (fun K hK => ?_)
       refine goes_ Try.func15 (by kernel_rfl) rfl #[.agg #[.int .i64 a1_0, .int .i64 a1_1, .slice A1_2 l1_2.length c1_2]] (by rfl) rfl rfl (by (try simp only [List.map_toArray, List.map_cons, List.map_nil]); first | done | rfl | (simp only [List.length_drop, List.length_take]; rfl)) ?_
       with_reducible refine (laws_toDoc.calls kj18 a1_0 a1_1 _ _ l1_2 t467 t468 t469 _ ?side1 ?side2 A46.out).mono ?_
       (case side1 => exact Xc HR1_2)
       (case side2 => exact HC1_2.out)
       rintro e w50 ⟨v470, rfl, ho0, hb⟩
       refine ⟨_, rfl, ?_⟩
       replace HO_8 := Aside0.mk (Kd.R_below (Xq HO_8) hb)
       replace HO465 := Aside0.mk (Kd.R_below (Xq HO465) hb)
       have HO471 := Aside0.mk (Kd.S_lower (Kd.S_new' ho0 (Kd.S_lt (Xq HO_461002))) (below_size Xi))
       replace HO_461002 := Aside0.mk (Kd.S_elder' (Xq HO_461002) (Kd.S_base ho0) hb)
       replace BK439 := Xbb BK439 hb
       replace BK460 := Xbb BK460 hb
       replace HB := Aside0.mk (below_step Xi hb)
       (try clear hb)
       (try clear hb2)
       (try clear hk)
       (try clear hi)
       (try clear ho0)
       obtain ⟨Ao51, co51, eo51⟩ := Kd.S_slice HO471.out
       (first | subst eo51 | (injection eo51 with f1_ f2_ f3_; have f4_ := f1_.symm; have f5_ := f3_.symm; clear f1_ f2_ f3_; subst f4_; subst f5_))
       refine hK.out _ _ ⟨(blk_cell BK460.out 0).trans rfl, (blk_cell BK460.out 1).trans rfl, (blk_cell BK460.out 2).trans rfl, (blk_cell BK439.out 0).trans rfl, (blk_cell BK439.out 1).trans rfl, (blk_cell BK439.out 2).trans rfl⟩ (fun hHeld => ?_)
       clear hK K
       refine Xno ?_
       refine one_ (i := 3) (N := some 56) #[true, true, true, true, false] rfl rfl (by kernel_rfl) (by decide) (fun K hK => ?_)
       refine goes_ Try.func17 (by kernel_rfl) rfl #[.agg #[.int .i64 t455, .int .i64 t456, .slice Ao32 t457.length co32], .agg #[.int .i64 t467, .int .i64 t468, .slice Ao51 t469.length co51]] (by rfl) rfl rfl (by (try simp only [List.map_toArray, List.map_cons, List.map_nil]); first | done | rfl | (simp only [List.length_drop, List.length_take]; rfl)) ?_
       with_reducible refine (laws_eqDoc.calls kj18 t455 t456 _ _ t457 t467 t468 _ _ t469 t472 _ ?side1 ?side2 ?side3 ?side4 A47.out).mono ?_
       (case side1 => repeat (first | exact (Kd.S_reads' HO_461002.out).2.2 | (with_reducible first | refine Kd.C_alloc ?_ _ | refine Kd.C_drewN ?_ _ | refine Kd.C_drew ?_)))
       (case side2 => exact (Kd.S_reads' HO_461002.out).2.1)
       (case side3 => repeat (first | exact (Kd.S_reads' HO471.out).2.2 | (with_reducible first | refine Kd.C_alloc ?_ _ | refine Kd.C_drewN ?_ _ | refine Kd.C_drew ?_)))
       (case side4 => exact (Kd.S_reads' HO471.out).2.1)
       rintro e w52 ⟨rfl, hb⟩
       refine ⟨_, rfl, ?_⟩
       replace HO_8 := Aside0.mk (Kd.R_below (Xq HO_8) hb)
       replace HO_461002 := Aside0.mk (Kd.S_below (Xq HO_461002) hb)
       replace HO465 := Aside0.mk (Kd.R_below (Xq HO465) hb)
       replace HO471 := Aside0.mk (Kd.S_below (Xq HO471) hb)
       replace BK439 := Xbb BK439 hb
       replace BK460 := Xbb BK460 hb
       replace HB := Aside0.mk (below_step Xi hb)
       (try clear hb)
       (try clear hb2)
       (try clear hk)
       (try clear hi)
       refine hK.out _ _ ⟨(blk_cell BK460.out 0).trans rfl, (blk_cell BK460.out 1).trans rfl, (blk_cell BK460.out 2).trans rfl, (blk_cell BK439.out 0).trans rfl, (blk_cell BK439.out 1).trans rfl, (blk_cell BK439.out 2).trans rfl⟩ (fun hHeld => ?_)
       clear hK K
       refine Xno ?_
       refine pure_ (i := 4) (N := some 57) (v := ?_) (a' := ?_) #[true, true, true, true, true] rfl rfl (by kernel_rfl) (fun _ _ _ h => h) (Or.inl ⟨by rfl, ?_⟩) ?_ ?_
       rotate_left
       ·intro w'
        go_simp
        with_reducible rfl
       rotate_left
       ·simp only [XW.q0, XW.q1, XW.q2, i64_w, i32_w]
        rfl
       refine done_ (by kernel_rfl) ?_
       go_upto_if 57 with (fail)
       have H := HC48.out
       clear HC48
       by_cases c53 : t472 = true
       ·subst c53
        (first | rw [if_pos rfl] at H | skip)
        go_wp2
        go_ret
        exact ⟨Xe, Xi⟩
       ·replace c53 := Bool.eq_false_iff.mpr c53
        subst c53
        (first | rw [if_neg (show ¬ (false = true) by decide)] at H | skip)
        cases H
      ·replace c45 := Bool.eq_false_iff.mpr c45
       subst c45
       (first | rw [if_neg (show ¬ (false = true) by decide)] at H | skip)
       cases H

end Go.Proofs.Ytfemohapampkiaa.XA
