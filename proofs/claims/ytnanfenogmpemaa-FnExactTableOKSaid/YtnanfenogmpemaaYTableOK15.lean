/- Contracts of the program's functions: each Go function that is named below comes to what its Lean function says. Written by xprint.py (a program of this session's, over the kit's print). Conditions: each contract's own premises. -/
import Derived.Test.YtnanfenogmpemaaYTableOK0
import Derived.Test.YtnanfenogmpemaaYTableOK1
import Derived.Test.YtnanfenogmpemaaYTableOK7
import Derived.Test.YtnanfenogmpemaaYTableOK8
import Derived.Test.YtnanfenogmpemaaYTableOK13
import Derived.Test.YtnanfenogmpemaaYTableOK14
namespace Go.Proofs.Ytnanfenogmpemaa.XA
open Go.RowKit Go.Proofs.YtnanfenogmpemaaW.PrintWords Go.Proofs.YtnanfenogmpemaaW.PrintLast Go.Proofs.YtnanfenogmpemaaW.PrintMore XW
attribute [local go_sem] max2_int min2_int max_two min_two max_three min_three max_four min_four   -- for this text's walks alone
set_option linter.unusedVariables false
set_option linter.unusedSimpArgs false

/-! ### laws_eqTable: function 17 -/
def laws_eqTable.f (k : Nat) (l0_0 : List (S55)) (l0_1 : List (S55)) (l1_0 : List (S55)) (l1_1 : List (S55)) : Option (Bool) := (laws_eqHoldS.f k l0_0 l1_0).bind fun t330 => (if t330 = true then ((laws_eqHoldS.f k l0_1 l1_1).bind fun t331 => (if t331 = true then (some true) else (some false))) else (some false))
set_option maxHeartbeats 8000000 in
set_option maxRecDepth 100000 in
theorem laws_eqTable.calls (k : Nat) (A0_0 : Option Addr) (c0_0 : Nat) (l0_0 : List (S55)) (A0_1 : Option Addr) (c0_1 : Nat) (l0_1 : List (S55)) (A1_0 : Option Addr) (c1_0 : Nat) (l1_0 : List (S55)) (A1_1 : Option Addr) (c1_1 : Nat) (l1_1 : List (S55)) (r : Bool) (w : World) (hr0_0 : Kd.C k55 w A0_0 l0_0.length l0_0) (hc0_0 : l0_0.length ≤ c0_0) (hr0_1 : Kd.C k55 w A0_1 l0_1.length l0_1) (hc0_1 : l0_1.length ≤ c0_1) (hr1_0 : Kd.C k55 w A1_0 l1_0.length l1_0) (hc1_0 : l1_0.length ≤ c1_0) (hr1_1 : Kd.C k55 w A1_1 l1_1.length l1_1) (hc1_1 : l1_1.length ≤ c1_1) (h : laws_eqTable.f k l0_0 l0_1 l1_0 l1_1 = some r) :
  Calls Try.prog 17 #[.agg #[.slice A0_0 l0_0.length c0_0, .slice A0_1 l0_1.length c0_1], .agg #[.slice A1_0 l1_0.length c1_0, .slice A1_1 l1_1.length c1_1]] w fun e w' => e = .returned (.bool r) ∧ Below w.heap.size w w' := by
 have hu37 := Try.underlying37
 have HR0_0 := Aside0.mk hr0_0
 have HC0_0 := Aside0.mk hc0_0
 clear hr0_0 hc0_0
 have HR0_1 := Aside0.mk hr0_1
 have HC0_1 := Aside0.mk hc0_1
 clear hr0_1 hc0_1
 have HR1_0 := Aside0.mk hr1_0
 have HC1_0 := Aside0.mk hc1_0
 clear hr1_0 hc1_0
 have HR1_1 := Aside0.mk hr1_1
 have HC1_1 := Aside0.mk hc1_1
 clear hr1_1 hc1_1
 have HB := Aside0.mk (Below.refl w.heap.size w)
 have H : ((laws_eqHoldS.f k l0_0 l1_0).bind fun t330 => (if t330 = true then ((laws_eqHoldS.f k l0_1 l1_1).bind fun t331 => (if t331 = true then (some true) else (some false))) else (some false))) = some r := h
 clear h
 obtain ⟨t330, A3, H⟩ := Xbi H
 (try dsimp only at H)
 have HC4 := Aside0.mk H
 clear H
 go_enter Try.func17, Try.ntmps17
 go_upto_if 10 with (first | ((with_reducible refine gate_dst (N := 2) rfl ?_); refine Xbox 2 #[.slice A0_0 l0_0.length c0_0, .slice A0_1 l0_1.length c0_1] 37 ?_; intro gb328 hg w5 hbox hb; have BK328 := Aside0.mk (hbox); have GE328 := Xge hg Xi; replace HB := Aside0.mk (below_step Xi hb); clear hb hbox hg) | ((with_reducible refine gate_dst (N := 3) rfl ?_); refine Xbox 3 #[.slice A1_0 l1_0.length c1_0, .slice A1_1 l1_1.length c1_1] 37 ?_; intro gb329 hg w6 hbox hb; have BK329 := Aside0.mk (hbox); have GE329 := Xge hg Xi; replace HB := Aside0.mk (below_step Xi hb); have NB328_329 := Xnb hg BK328; have NB329_328 := Xns NB328_329; replace BK328 := Xbb BK328 hb; clear hb hbox hg; have hnb7 := NB328_329.out; have hnc7 := NB329_328.out; obtain ⟨hcz8_0, hcz8_1⟩ := Xc2 BK328; obtain ⟨hcz9_0, hcz9_1⟩ := Xc2 BK329) | ((with_reducible refine gate_callee (f := 22) rfl ?_); refine Xgo 9 Try.func22 #[.slice A0_0 l0_0.length c0_0, .slice A1_0 l1_0.length c1_0] ?_; (with_reducible refine (laws_eqHoldS.calls k _ _ l0_0 _ _ l1_0 t330 _ ?side1 ?side2 ?side3 ?side4 A3.out).mono ?_); (case side1 => exact Xc HR0_0); (case side2 => exact HC0_0.out); (case side3 => exact Xc HR1_0); (case side4 => exact HC1_0.out); rintro e w10 ⟨rfl, hb⟩; refine ⟨_, rfl, ?_⟩; replace BK328 := Xbb BK328 hb; replace BK329 := Xbb BK329 hb; replace HB := Aside0.mk (below_step Xi hb); clear hb))
 have H := HC4.out
 clear HC4
 by_cases c11 : t330 = true
 ·subst c11
  (first | rw [if_pos rfl] at H | skip)
  obtain ⟨t331, A12, H⟩ := Xbi H
  (try dsimp only at H)
  have HC13 := Aside0.mk H
  clear H
  have hnb14 := NB328_329.out
  have hnc14 := NB329_328.out
  obtain ⟨hcz15_0, hcz15_1⟩ := Xc2 BK328
  obtain ⟨hcz16_0, hcz16_1⟩ := Xc2 BK329
  go_upto_if 16 with (first | ((with_reducible refine gate_callee (f := 22) rfl ?_); refine Xgo 15 Try.func22 #[.slice A0_1 l0_1.length c0_1, .slice A1_1 l1_1.length c1_1] ?_; (with_reducible refine (laws_eqHoldS.calls k _ _ l0_1 _ _ l1_1 t331 _ ?side1 ?side2 ?side3 ?side4 A12.out).mono ?_); (case side1 => exact Xc HR0_1); (case side2 => exact HC0_1.out); (case side3 => exact Xc HR1_1); (case side4 => exact HC1_1.out); rintro e w17 ⟨rfl, hb⟩; refine ⟨_, rfl, ?_⟩; replace BK328 := Xbb BK328 hb; replace BK329 := Xbb BK329 hb; replace HB := Aside0.mk (below_step Xi hb); clear hb))
  have H := HC13.out
  clear HC13
  by_cases c18 : t331 = true
  ·subst c18
   (first | rw [if_pos rfl] at H | skip)
   obtain rfl := Option.some.inj H
   go_wp2
   go_ret
   exact ⟨Xe, Xi⟩
  ·replace c18 := Bool.eq_false_iff.mpr c18
   subst c18
   (first | rw [if_neg (show ¬ (false = true) by decide)] at H | skip)
   obtain rfl := Option.some.inj H
   go_wp2
   go_ret
   exact ⟨Xe, Xi⟩
 ·replace c11 := Bool.eq_false_iff.mpr c11
  subst c11
  (first | rw [if_neg (show ¬ (false = true) by decide)] at H | skip)
  obtain rfl := Option.some.inj H
  go_wp2
  go_ret
  exact ⟨Xe, Xi⟩

/-! ### laws_FnExactTableOK: function 3 -/
def laws_FnExactTableOK.f (k : Nat) (a0_0 : Int) (a0_1 : Int) (l0_2 : List (S96)) (l1_0 : List (S53)) (l1_1 : List (S53)) : Option (Bool) := (laws_szDoc.f k a0_0 a0_1 l0_2 1048576).bind fun t334 => (if t334 < 0 then (some true) else ((laws_szTable.f l1_0 l1_1 t334).bind fun t335 => (if t335 < 0 then (some true) else ((laws_toDoc.f k a0_0 a0_1 l0_2).bind fun bt336 => ((laws_toTable.f k l1_0 l1_1).bind fun bt341 => ((spec_TableOK.f k bt336.1 bt336.2.1 bt336.2.2 bt341.1 bt341.2).bind fun t347 => ((laws_toDoc.f k a0_0 a0_1 l0_2).bind fun bt348 => ((laws_toTable.f k l1_0 l1_1).bind fun bt354 => ((impl_TableOK.f k bt348.1 bt348.2.1 bt348.2.2 bt354.1 bt354.2).bind fun t361 => (if (t361 != t347) = true then (some false) else ((laws_toDoc.f k a0_0 a0_1 l0_2).bind fun bt362 => ((laws_eqDoc.f k bt348.1 bt348.2.1 bt348.2.2 bt362.1 bt362.2.1 bt362.2.2).bind fun t367 => (if t367 = true then ((laws_toTable.f k l1_0 l1_1).bind fun bt368 => ((laws_eqTable.f k bt354.1 bt354.2 bt368.1 bt368.2).bind fun t374 => (if t374 = true then (some true) else (some false)))) else (some false))))))))))))))
set_option maxHeartbeats 8000000 in
set_option maxRecDepth 100000 in
theorem laws_FnExactTableOK.calls (k : Nat) (a0_0 : Int) (a0_1 : Int) (A0_2 : Option Addr) (c0_2 : Nat) (l0_2 : List (S96)) (A1_0 : Option Addr) (c1_0 : Nat) (l1_0 : List (S53)) (A1_1 : Option Addr) (c1_1 : Nat) (l1_1 : List (S53)) (r : Bool) (w : World) (hr0_2 : Kd.C k96 w A0_2 l0_2.length l0_2) (hc0_2 : l0_2.length ≤ c0_2) (hr1_0 : Kd.C k53 w A1_0 l1_0.length l1_0) (hc1_0 : l1_0.length ≤ c1_0) (hr1_1 : Kd.C k53 w A1_1 l1_1.length l1_1) (hc1_1 : l1_1.length ≤ c1_1) (hr_ : r = true) (h : laws_FnExactTableOK.f k a0_0 a0_1 l0_2 l1_0 l1_1 = some r) :
  Calls Try.prog 3 #[.agg #[.int .i64 a0_0, .int .i64 a0_1, .slice A0_2 l0_2.length c0_2], .agg #[.slice A1_0 l1_0.length c1_0, .slice A1_1 l1_1.length c1_1]] w fun e w' => e = .returned (.bool r) ∧ Below w.heap.size w w' := by
 subst hr_
 have hu24 := Try.underlying24
 have hu27 := Try.underlying27
 have hu33 := Try.underlying33
 have hu37 := Try.underlying37
 have HR0_2 := Aside0.mk hr0_2
 have HC0_2 := Aside0.mk hc0_2
 clear hr0_2 hc0_2
 have HR1_0 := Aside0.mk hr1_0
 have HC1_0 := Aside0.mk hc1_0
 clear hr1_0 hc1_0
 have HR1_1 := Aside0.mk hr1_1
 have HC1_1 := Aside0.mk hc1_1
 clear hr1_1 hc1_1
 have HB := Aside0.mk (Below.refl w.heap.size w)
 have H : ((laws_szDoc.f k a0_0 a0_1 l0_2 1048576).bind fun t334 => (if t334 < 0 then (some true) else ((laws_szTable.f l1_0 l1_1 t334).bind fun t335 => (if t335 < 0 then (some true) else ((laws_toDoc.f k a0_0 a0_1 l0_2).bind fun bt336 => ((laws_toTable.f k l1_0 l1_1).bind fun bt341 => ((spec_TableOK.f k bt336.1 bt336.2.1 bt336.2.2 bt341.1 bt341.2).bind fun t347 => ((laws_toDoc.f k a0_0 a0_1 l0_2).bind fun bt348 => ((laws_toTable.f k l1_0 l1_1).bind fun bt354 => ((impl_TableOK.f k bt348.1 bt348.2.1 bt348.2.2 bt354.1 bt354.2).bind fun t361 => (if (t361 != t347) = true then (some false) else ((laws_toDoc.f k a0_0 a0_1 l0_2).bind fun bt362 => ((laws_eqDoc.f k bt348.1 bt348.2.1 bt348.2.2 bt362.1 bt362.2.1 bt362.2.2).bind fun t367 => (if t367 = true then ((laws_toTable.f k l1_0 l1_1).bind fun bt368 => ((laws_eqTable.f k bt354.1 bt354.2 bt368.1 bt368.2).bind fun t374 => (if t374 = true then (some true) else (some false)))) else (some false))))))))))))))) = some true := h
 clear h
 obtain ⟨t334, A3, H⟩ := Xbi H
 (try dsimp only at H)
 have HC4 := Aside0.mk H
 clear H
 go_enter Try.func3, Try.ntmps3
 go_upto_if 14 with (first | ((with_reducible refine gate_dst (N := 2) rfl ?_); refine Xbox 2 #[.int .i64 a0_0, .int .i64 a0_1, .slice A0_2 l0_2.length c0_2] 24 ?_; intro gb332 hg w5 hbox hb; have BK332 := Aside0.mk (hbox); have GE332 := Xge hg Xi; replace HB := Aside0.mk (below_step Xi hb); clear hb hbox hg) | ((with_reducible refine gate_dst (N := 3) rfl ?_); refine Xbox 3 #[.slice A1_0 l1_0.length c1_0, .slice A1_1 l1_1.length c1_1] 27 ?_; intro gb333 hg w6 hbox hb; have BK333 := Aside0.mk (hbox); have GE333 := Xge hg Xi; replace HB := Aside0.mk (below_step Xi hb); have NB332_333 := Xnb hg BK332; have NB333_332 := Xns NB332_333; replace BK332 := Xbb BK332 hb; clear hb hbox hg; have hnb7 := NB332_333.out; have hnc7 := NB333_332.out; obtain ⟨hcz8_0, hcz8_1, hcz8_2⟩ := Xc3 BK332; obtain ⟨hfz8_0, hfz8_1, hfz8_2⟩ := Xf3 BK332) | ((with_reducible refine gate_callee (f := 10) rfl ?_); refine Xgo 12 Try.func10 #[.agg #[.int .i64 a0_0, .int .i64 a0_1, .slice A0_2 l0_2.length c0_2], .int .i64 1048576] ?_; (with_reducible refine (laws_szDoc.calls k a0_0 a0_1 _ _ l0_2 1048576 t334 _ ?side1 ?side2 A3.out).mono ?_); (case side1 => exact Xc HR0_2); (case side2 => exact HC0_2.out); rintro e w9 ⟨rfl, hb⟩; refine ⟨_, rfl, ?_⟩; replace BK332 := Xbb BK332 hb; replace BK333 := Xbb BK333 hb; replace HB := Aside0.mk (below_step Xi hb); clear hb))
 have H := HC4.out
 clear HC4
 obtain ⟨c10b0, H⟩ | ⟨c10b0, H⟩ := Xit H
 ·(first | rw [c10b0] | (simp only [i64_w, i32_w]; rw [c10b0]) | skip)
  go_wp2
  go_ret
  exact ⟨Xe, Xi⟩
 ·(first | rw [c10b0] | (simp only [i64_w, i32_w]; rw [c10b0]) | skip)
  obtain ⟨t335, A11, H⟩ := Xbi H
  (try dsimp only at H)
  have HC12 := Aside0.mk H
  clear H
  have hnb13 := NB333_332.out
  have hnc13 := NB332_333.out
  obtain ⟨hcz14_0, hcz14_1⟩ := Xc2 BK333
  obtain ⟨hfz14_0, hfz14_1⟩ := Xf2 BK333
  go_upto_if 19 with (first | ((with_reducible refine gate_callee (f := 11) rfl ?_); refine Xgo 17 Try.func11 #[.agg #[.slice A1_0 l1_0.length c1_0, .slice A1_1 l1_1.length c1_1], .int .i64 t334] ?_; (with_reducible refine (laws_szTable.calls _ _ l1_0 _ _ l1_1 t334 t335 _ ?side1 ?side2 ?side3 ?side4 A11.out).mono ?_); (case side1 => exact Xc HR1_0); (case side2 => exact HC1_0.out); (case side3 => exact Xc HR1_1); (case side4 => exact HC1_1.out); rintro e w15 ⟨rfl, hb⟩; refine ⟨_, rfl, ?_⟩; replace BK332 := Xbb BK332 hb; replace BK333 := Xbb BK333 hb; replace HB := Aside0.mk (below_step Xi hb); clear hb))
  have H := HC12.out
  clear HC12
  obtain ⟨c16b0, H⟩ | ⟨c16b0, H⟩ := Xit H
  ·(first | rw [c16b0] | (simp only [i64_w, i32_w]; rw [c16b0]) | skip)
   go_wp2
   go_ret
   exact ⟨Xe, Xi⟩
  ·(first | rw [c16b0] | (simp only [i64_w, i32_w]; rw [c16b0]) | skip)
   replace H := Option.bind_eq_some_iff.mp H
   obtain ⟨⟨t336, t337, t338⟩, A170, H⟩ := H
   (try dsimp only at H)
   have A17 := Aside0.mk A170
   clear A170
   replace H := Option.bind_eq_some_iff.mp H
   obtain ⟨⟨t341, t344⟩, A180, H⟩ := H
   (try dsimp only at H)
   have A18 := Aside0.mk A180
   clear A180
   obtain ⟨t347, A19, H⟩ := Xbi H
   (try dsimp only at H)
   replace H := Option.bind_eq_some_iff.mp H
   obtain ⟨⟨t348, t349, t350⟩, A200, H⟩ := H
   (try dsimp only at H)
   have A20 := Aside0.mk A200
   clear A200
   replace H := Option.bind_eq_some_iff.mp H
   obtain ⟨⟨t354, t357⟩, A210, H⟩ := H
   (try dsimp only at H)
   have A21 := Aside0.mk A210
   clear A210
   obtain ⟨t361, A22, H⟩ := Xbi H
   (try dsimp only at H)
   have HC23 := Aside0.mk H
   clear H
   try go_wp2_with (fail)
   replace BK332 := Aside0.mk (blk_drew BK332.out)
   replace BK333 := Aside0.mk (blk_drew BK333.out)
   replace HB := Aside0.mk (below_drew1 HB.out)
   refine start_ (n := 6) (S := fun w' => w'.cell? ⟨gb332, 0, none⟩ = some (.int .i64 a0_0) ∧ w'.cell? ⟨gb332, 1, none⟩ = some (.int .i64 a0_1) ∧ w'.cell? ⟨gb332, 2, none⟩ = some (.slice A0_2 l0_2.length c0_2) ∧ w'.cell? ⟨gb333, 0, none⟩ = some (.slice A1_0 l1_0.length c1_0) ∧ w'.cell? ⟨gb333, 1, none⟩ = some (.slice A1_1 l1_1.length c1_1)) (ds := []) #[false, false, false, false, false, false] (by kernel_rfl) rfl rfl ⟨(blk_cell BK332.out 0).trans rfl, (blk_cell BK332.out 1).trans rfl, (blk_cell BK332.out 2).trans rfl, (blk_cell BK333.out 0).trans rfl, (blk_cell BK333.out 1).trans rfl⟩ (fun hHeld => ?_)
   generalize w15.drew = w24 at BK332 BK333 HB hHeld ⊢
   refine take_ (i := 0) (N := some 20) (v := ?_) (a' := ?_) (XW.bs 6 1) rfl rfl (by kernel_rfl) (fun _ _ _ h => h) (Or.inl ⟨by rfl, ?_⟩) hHeld ?_ ?_
   rotate_left
   ·rintro w' ⟨s0, s1, s2, s3, s4⟩
    go_simp
    with_reducible rfl
   rotate_left
   ·simp only [XW.q0, XW.q1, XW.q2, i64_w, i32_w]
    rfl
   refine take_ (i := 2) (N := some 22) (v := ?_) (a' := ?_) (XW.bs 6 5) rfl rfl (by kernel_rfl) (fun _ _ _ h => h) (Or.inl ⟨by rfl, ?_⟩) hHeld ?_ ?_
   rotate_left
   ·rintro w' ⟨s0, s1, s2, s3, s4⟩
    go_simp
    with_reducible rfl
   rotate_left
   ·simp only [XW.q0, XW.q1, XW.q2, i64_w, i32_w]
    rfl
   refine one_ (i := 1) (N := some 21) (XW.bs 6 7) rfl rfl (by kernel_rfl) (by decide) (fun K hK => ?_)
   refine goes_ Try.func13 (by kernel_rfl) rfl #[.agg #[.int .i64 a0_0, .int .i64 a0_1, .slice A0_2 l0_2.length c0_2]] (by rfl) rfl rfl (by (try simp only [List.map_toArray, List.map_cons, List.map_nil]); first | done | rfl | (simp only [List.length_drop, List.length_take]; rfl)) ?_
   with_reducible refine (laws_toDoc.calls k a0_0 a0_1 _ _ l0_2 t336 t337 t338 _ ?side1 ?side2 A17.out).mono ?_
   (case side1 => exact Xc HR0_2)
   (case side2 => exact HC0_2.out)
   rintro e w25 ⟨v339, rfl, ho0, hb⟩
   refine ⟨_, rfl, ?_⟩
   have HO340 := Aside0.mk (Kd.S_lower ho0 (below_size Xi))
   replace BK332 := Xbb BK332 hb
   replace BK333 := Xbb BK333 hb
   replace HB := Aside0.mk (below_step Xi hb)
   (try clear hb)
   (try clear hb2)
   (try clear hk)
   (try clear hi)
   (try clear ho0)
   refine hK.out _ _ ⟨(blk_cell BK332.out 0).trans rfl, (blk_cell BK332.out 1).trans rfl, (blk_cell BK332.out 2).trans rfl, (blk_cell BK333.out 0).trans rfl, (blk_cell BK333.out 1).trans rfl⟩ (fun hHeld => ?_)
   clear hK K
   refine Xno ?_
   refine one_ (i := 3) (N := some 23) (XW.bs 6 15) rfl rfl (by kernel_rfl) (by decide) (fun K hK => ?_)
   refine goes_ Try.func14 (by kernel_rfl) rfl #[.agg #[.slice A1_0 l1_0.length c1_0, .slice A1_1 l1_1.length c1_1]] (by rfl) rfl rfl (by (try simp only [List.map_toArray, List.map_cons, List.map_nil]); first | done | rfl | (simp only [List.length_drop, List.length_take]; rfl)) ?_
   with_reducible refine (laws_toTable.calls k _ _ l1_0 _ _ l1_1 t341 t344 _ ?side1 ?side2 ?side3 ?side4 A18.out).mono ?_
   (case side1 => exact Xc HR1_0)
   (case side2 => exact HC1_0.out)
   (case side3 => exact Xc HR1_1)
   (case side4 => exact HC1_1.out)
   rintro e w26 ⟨v342, v345, rfl, ho0, ho1, hb⟩
   refine ⟨_, rfl, ?_⟩
   replace HO340 := Aside0.mk (Kd.S_below (Xq HO340) hb)
   have HO343 := Aside0.mk (Kd.R_lower ho0 (below_size Xi))
   have HO346 := Aside0.mk (Kd.R_lower ho1 (below_size Xi))
   replace BK332 := Xbb BK332 hb
   replace BK333 := Xbb BK333 hb
   replace HB := Aside0.mk (below_step Xi hb)
   (try clear hb)
   (try clear hb2)
   (try clear hk)
   (try clear hi)
   (try clear ho0)
   (try clear ho1)
   obtain ⟨Ao27, co27, eo27⟩ := Kd.S_slice HO340.out
   (first | subst eo27 | (injection eo27 with f1_ f2_ f3_; have f4_ := f1_.symm; have f5_ := f3_.symm; clear f1_ f2_ f3_; subst f4_; subst f5_))
   obtain ⟨Ao28, co28, eo28⟩ := Kd.R_slice HO343.out
   (first | subst eo28 | (injection eo28 with f1_ f2_ f3_; have f4_ := f1_.symm; have f5_ := f3_.symm; clear f1_ f2_ f3_; subst f4_; subst f5_))
   obtain ⟨Ao29, co29, eo29⟩ := Kd.R_slice HO346.out
   (first | subst eo29 | (injection eo29 with f1_ f2_ f3_; have f4_ := f1_.symm; have f5_ := f3_.symm; clear f1_ f2_ f3_; subst f4_; subst f5_))
   refine hK.out _ _ ⟨(blk_cell BK332.out 0).trans rfl, (blk_cell BK332.out 1).trans rfl, (blk_cell BK332.out 2).trans rfl, (blk_cell BK333.out 0).trans rfl, (blk_cell BK333.out 1).trans rfl⟩ (fun hHeld => ?_)
   clear hK K
   refine Xno ?_
   refine one_ (i := 4) (N := some 24) (XW.bs 6 31) rfl rfl (by kernel_rfl) (by decide) (fun K hK => ?_)
   refine goes_ Try.func12 (by kernel_rfl) rfl #[.agg #[.int .i64 t336, .int .i64 t337, .slice Ao27 t338.length co27], .agg #[.slice Ao28 t341.length co28, .slice Ao29 t344.length co29]] (by rfl) rfl rfl (by (try simp only [List.map_toArray, List.map_cons, List.map_nil]); first | done | rfl | (simp only [List.length_drop, List.length_take]; rfl)) ?_
   with_reducible refine (spec_TableOK.calls k t336 t337 _ _ t338 _ _ t341 _ _ t344 t347 _ ?side1 ?side2 ?side3 ?side4 ?side5 ?side6 A19.out).mono ?_
   (case side1 => repeat (first | exact (Kd.S_reads' HO340.out).2.2 | (with_reducible first | refine Kd.C_alloc ?_ _ | refine Kd.C_drewN ?_ _ | refine Kd.C_drew ?_)))
   (case side2 => exact (Kd.S_reads' HO340.out).2.1)
   (case side3 => repeat (first | exact (Kd.R_reads' HO343.out).2.2 | (with_reducible first | refine Kd.C_alloc ?_ _ | refine Kd.C_drewN ?_ _ | refine Kd.C_drew ?_)))
   (case side4 => exact (Kd.R_reads' HO343.out).2.1)
   (case side5 => repeat (first | exact (Kd.R_reads' HO346.out).2.2 | (with_reducible first | refine Kd.C_alloc ?_ _ | refine Kd.C_drewN ?_ _ | refine Kd.C_drew ?_)))
   (case side6 => exact (Kd.R_reads' HO346.out).2.1)
   rintro e w30 ⟨rfl, hb⟩
   refine ⟨_, rfl, ?_⟩
   replace HO340 := Aside0.mk (Kd.S_below (Xq HO340) hb)
   replace HO343 := Aside0.mk (Kd.R_below (Xq HO343) hb)
   replace HO346 := Aside0.mk (Kd.R_below (Xq HO346) hb)
   replace BK332 := Xbb BK332 hb
   replace BK333 := Xbb BK333 hb
   replace HB := Aside0.mk (below_step Xi hb)
   (try clear hb)
   (try clear hb2)
   (try clear hk)
   (try clear hi)
   refine hK.out _ _ ⟨(blk_cell BK332.out 0).trans rfl, (blk_cell BK332.out 1).trans rfl, (blk_cell BK332.out 2).trans rfl, (blk_cell BK333.out 0).trans rfl, (blk_cell BK333.out 1).trans rfl⟩ (fun hHeld => ?_)
   clear hK K
   refine Xno ?_
   refine pure_ (i := 5) (N := some 6) (v := ?_) (a' := ?_) (XW.bs 6 63) rfl rfl (by kernel_rfl) (fun _ _ _ h => h) (Or.inl ⟨by rfl, ?_⟩) ?_ ?_
   rotate_left
   ·intro w'
    go_simp
    with_reducible rfl
   rotate_left
   ·simp only [XW.q0, XW.q1, XW.q2, i64_w, i32_w]
    rfl
   refine done_ (by kernel_rfl) ?_
   have hnb31 := NB332_333.out
   have hnc31 := NB333_332.out
   obtain ⟨hcz32_0, hcz32_1, hcz32_2⟩ := Xc3 BK332
   obtain ⟨hfz32_0, hfz32_1, hfz32_2⟩ := Xf3 BK332
   go_upto_if 34 with (first | ((with_reducible refine gate_callee (f := 13) rfl ?_); refine Xgo 26 Try.func13 #[.agg #[.int .i64 a0_0, .int .i64 a0_1, .slice A0_2 l0_2.length c0_2]] ?_; (with_reducible refine (laws_toDoc.calls k a0_0 a0_1 _ _ l0_2 t348 t349 t350 _ ?side1 ?side2 A20.out).mono ?_); (case side1 => exact Xc HR0_2); (case side2 => exact HC0_2.out); rintro e w33 ⟨v351, rfl, ho0, hb⟩; refine ⟨_, rfl, ?_⟩; replace HO343 := Aside0.mk (Kd.R_below (Xq HO343) hb); replace HO346 := Aside0.mk (Kd.R_below (Xq HO346) hb); have HO352 := Aside0.mk (Kd.S_lower (Kd.S_new' ho0 (Kd.S_lt (Xq HO340))) (below_size Xi)); replace HO340 := Aside0.mk (Kd.S_elder' (Xq HO340) (Kd.S_base ho0) hb); replace BK332 := Xbb BK332 hb; replace BK333 := Xbb BK333 hb; replace HB := Aside0.mk (below_step Xi hb); clear hb; (try clear ho0)) | ((with_reducible refine gate_dst (N := 7) rfl ?_); refine Xbox 7 #[.int .i64 0, .int .i64 0, .slice none 0 0] 33 ?_; intro gb353 hg w34 hbox hb; replace HO340 := Aside0.mk (Kd.S_below (Xq HO340) hb); replace HO343 := Aside0.mk (Kd.R_below (Xq HO343) hb); replace HO346 := Aside0.mk (Kd.R_below (Xq HO346) hb); replace HO352 := Aside0.mk (Kd.S_below (Xq HO352) hb); have BK353 := Aside0.mk (hbox); have GE353 := Xge hg Xi; replace HB := Aside0.mk (below_step Xi hb); have NB332_353 := Xnb hg BK332; have NB353_332 := Xns NB332_353; replace BK332 := Xbb BK332 hb; have NB333_353 := Xnb hg BK333; have NB353_333 := Xns NB333_353; replace BK333 := Xbb BK333 hb; clear hb hbox hg; have hnb35 := NB353_332.out; have hnc35 := NB332_353.out; have hnb36 := NB353_333.out; have hnc36 := NB333_353.out; obtain ⟨hcz37_0, hcz37_1, hcz37_2⟩ := Xc3 BK353; obtain ⟨hfz37_0, hfz37_1, hfz37_2⟩ := Xf3 BK353; obtain ⟨Ao38, co38, eo38⟩ := Kd.S_slice HO352.out; subst eo38) | ((with_reducible refine gate_store (t := 33) (p := 7) rfl ?_); refine store_event (t := 33) (p := 7) (v := ?vo_w39) (w1 := (((w34.setCell ⟨gb353, 0, none⟩ (.int .i64 t348)).setCell ⟨gb353, 1, none⟩ (.int .i64 t349)).setCell ⟨gb353, 2, none⟩ (.slice Ao38 t350.length co38))) ?hg ?ho ?hn ?hr ?_; (case ho => rfl); (case hg => rfl); (case hn => rfl); (case hr => first | (go_simp; done) | (go_simp; rfl)); intro w39 hw; have n0_ : Aside0 (Kd.S k92 92 w39 w.heap.size (fun k_ => some k_ ≠ (.slice Ao38 t350.length co38 : Value).ownBlock) (.slice Ao27 t338.length co27) t338) := ⟨(by rw [hw]; exact (by (with_reducible repeat (first | apply Kd.S_alloc | apply Kd.S_drewN | apply Kd.S_drew)); exact Kd.S_mono (Kd.S_far (p := ⟨gb353, 2, none⟩) (Kd.S_far (p := ⟨gb353, 1, none⟩) (Kd.S_far (p := ⟨gb353, 0, none⟩) (Kd.S_types HO340.out BK353.out (by decide)) (fun _ hk => hk.2) (.int .i64 t348)) (fun _ hk => hk.2) (.int .i64 t349)) (fun _ hk => hk.2) (.slice Ao38 t350.length co38)) (fun _ hk => hk.1.2)))⟩; have n1_ : Aside0 (Kd.R k55 55 w39 w.heap.size (fun k_ => some k_ ≠ (.slice Ao29 t344.length co29 : Value).ownBlock) (.slice Ao28 t341.length co28) t341) := ⟨(by rw [hw]; exact (by (with_reducible repeat (first | apply Kd.R_alloc | apply Kd.R_drewN | apply Kd.R_drew)); exact Kd.R_mono (Kd.R_far (p := ⟨gb353, 2, none⟩) (Kd.R_far (p := ⟨gb353, 1, none⟩) (Kd.R_far (p := ⟨gb353, 0, none⟩) (Kd.R_types HO343.out BK353.out (by decide)) (fun _ hk => hk.2) (.int .i64 t348)) (fun _ hk => hk.2) (.int .i64 t349)) (fun _ hk => hk.2) (.slice Ao38 t350.length co38)) (fun _ hk => hk.1)))⟩; have n2_ : Aside0 (Kd.R k55 55 w39 w.heap.size (fun k_ => some k_ ≠ (.slice Ao28 t341.length co28 : Value).ownBlock) (.slice Ao29 t344.length co29) t344) := ⟨(by rw [hw]; exact (by (with_reducible repeat (first | apply Kd.R_alloc | apply Kd.R_drewN | apply Kd.R_drew)); exact Kd.R_mono (Kd.R_far (p := ⟨gb353, 2, none⟩) (Kd.R_far (p := ⟨gb353, 1, none⟩) (Kd.R_far (p := ⟨gb353, 0, none⟩) (Kd.R_types HO346.out BK353.out (by decide)) (fun _ hk => hk.2) (.int .i64 t348)) (fun _ hk => hk.2) (.int .i64 t349)) (fun _ hk => hk.2) (.slice Ao38 t350.length co38)) (fun _ hk => hk.1)))⟩; have n3_ : Aside0 (Kd.S k92 92 w39 w.heap.size (fun k_ => some k_ ≠ (.slice Ao27 t338.length co27 : Value).ownBlock) (.slice Ao38 t350.length co38) t350) := ⟨(by rw [hw]; exact (by (with_reducible repeat (first | apply Kd.S_alloc | apply Kd.S_drewN | apply Kd.S_drew)); exact Kd.S_mono (Kd.S_far (p := ⟨gb353, 2, none⟩) (Kd.S_far (p := ⟨gb353, 1, none⟩) (Kd.S_far (p := ⟨gb353, 0, none⟩) (Kd.S_types HO352.out BK353.out (by decide)) (fun _ hk => hk.2) (.int .i64 t348)) (fun _ hk => hk.2) (.int .i64 t349)) (fun _ hk => hk.2) (.slice Ao38 t350.length co38)) (fun _ hk => hk.1.2)))⟩; have n4_ : Aside0 (w39.heap[gb332]? = some (.cells #[.int .i64 a0_0, .int .i64 a0_1, .slice A0_2 l0_2.length c0_2] 24 (0, 0))) := ⟨(by rw [hw]; exact (by (with_reducible repeat (first | refine blk_drewN ?_ _ | refine blk_drew ?_ | refine blk_alloc ?_ _)); refine blk_far ?_ NB332_353.out _; (with_reducible repeat (first | refine blk_drewN ?_ _ | refine blk_drew ?_ | refine blk_alloc ?_ _)); refine blk_far ?_ NB332_353.out _; (with_reducible repeat (first | refine blk_drewN ?_ _ | refine blk_drew ?_ | refine blk_alloc ?_ _)); refine blk_far ?_ NB332_353.out _; (with_reducible repeat (first | refine blk_drewN ?_ _ | refine blk_drew ?_ | refine blk_alloc ?_ _)); exact BK332.out))⟩; have n5_ : Aside0 (w39.heap[gb333]? = some (.cells #[.slice A1_0 l1_0.length c1_0, .slice A1_1 l1_1.length c1_1] 27 (0, 0))) := ⟨(by rw [hw]; exact (by (with_reducible repeat (first | refine blk_drewN ?_ _ | refine blk_drew ?_ | refine blk_alloc ?_ _)); refine blk_far ?_ NB333_353.out _; (with_reducible repeat (first | refine blk_drewN ?_ _ | refine blk_drew ?_ | refine blk_alloc ?_ _)); refine blk_far ?_ NB333_353.out _; (with_reducible repeat (first | refine blk_drewN ?_ _ | refine blk_drew ?_ | refine blk_alloc ?_ _)); refine blk_far ?_ NB333_353.out _; (with_reducible repeat (first | refine blk_drewN ?_ _ | refine blk_drew ?_ | refine blk_alloc ?_ _)); exact BK333.out))⟩; have n6_ : Aside0 (w39.heap[gb353]? = some (.cells #[.int .i64 t348, .int .i64 t349, .slice Ao38 t350.length co38] 33 (0, 0))) := ⟨(by rw [hw]; exact (by (with_reducible repeat (first | refine blk_drewN ?_ _ | refine blk_drew ?_ | refine blk_alloc ?_ _)); refine blk_put (cs := #[.int .i64 t348, .int .i64 t349, .slice none 0 0]) ?_ 2 _ rfl; (with_reducible repeat (first | refine blk_drewN ?_ _ | refine blk_drew ?_ | refine blk_alloc ?_ _)); refine blk_put (cs := #[.int .i64 t348, .int .i64 0, .slice none 0 0]) ?_ 1 _ rfl; (with_reducible repeat (first | refine blk_drewN ?_ _ | refine blk_drew ?_ | refine blk_alloc ?_ _)); refine blk_put (cs := #[.int .i64 0, .int .i64 0, .slice none 0 0]) ?_ 0 _ rfl; (with_reducible repeat (first | refine blk_drewN ?_ _ | refine blk_drew ?_ | refine blk_alloc ?_ _)); exact BK353.out))⟩; have n7_ : Aside0 (Below w.heap.size w w39) := ⟨(by rw [hw]; exact Xi)⟩; clear hw; clear HO340; clear HO343; clear HO346; clear HO352; clear BK332; clear BK333; clear BK353; clear HB; have HO340 := n0_; have HO343 := n1_; have HO346 := n2_; have HO352 := n3_; have BK332 := n4_; have BK333 := n5_; have BK353 := n6_; have HB := n7_; clear n0_ n1_ n2_ n3_ n4_ n5_ n6_ n7_; obtain ⟨hcz40_0, hcz40_1⟩ := Xc2 BK333; obtain ⟨hfz40_0, hfz40_1⟩ := Xf2 BK333) | ((with_reducible refine gate_callee (f := 14) rfl ?_); refine Xgo 28 Try.func14 #[.agg #[.slice A1_0 l1_0.length c1_0, .slice A1_1 l1_1.length c1_1]] ?_; (with_reducible refine (laws_toTable.calls k _ _ l1_0 _ _ l1_1 t354 t357 _ ?side1 ?side2 ?side3 ?side4 A21.out).mono ?_); (case side1 => exact Xc HR1_0); (case side2 => exact HC1_0.out); (case side3 => exact Xc HR1_1); (case side4 => exact HC1_1.out); rintro e w41 ⟨v355, v358, rfl, ho0, ho1, hb⟩; refine ⟨_, rfl, ?_⟩; replace HO340 := Aside0.mk (Kd.S_below (Xq HO340) hb); replace HO352 := Aside0.mk (Kd.S_below (Xq HO352) hb); have HO356 := Aside0.mk (Kd.R_lower (Kd.R_new' (Kd.R_new' ho0 (Kd.R_lt (Xq HO343))) (Kd.R_lt (Xq HO346))) (below_size Xi)); have HO359 := Aside0.mk (Kd.R_lower (Kd.R_new' (Kd.R_new' ho1 (Kd.R_lt (Xq HO343))) (Kd.R_lt (Xq HO346))) (below_size Xi)); replace HO343 := Aside0.mk (Kd.R_mono (Kd.R_told (Kd.R_told (Kd.R_old (Xq HO343) hb) (Kd.R_base ho0)) (Kd.R_base ho1)) (fun _ h_ => h_.1)); replace HO346 := Aside0.mk (Kd.R_mono (Kd.R_told (Kd.R_told (Kd.R_old (Xq HO346) hb) (Kd.R_base ho0)) (Kd.R_base ho1)) (fun _ h_ => h_.1)); replace BK332 := Xbb BK332 hb; replace BK333 := Xbb BK333 hb; replace BK353 := Xbb BK353 hb; replace HB := Aside0.mk (below_step Xi hb); clear hb; (try clear ho0); (try clear ho1)) | ((with_reducible refine gate_dst (N := 8) rfl ?_); refine Xbox 8 #[.slice none 0 0, .slice none 0 0] 37 ?_; intro gb360 hg w42 hbox hb; replace HO340 := Aside0.mk (Kd.S_below (Xq HO340) hb); replace HO343 := Aside0.mk (Kd.R_below (Xq HO343) hb); replace HO346 := Aside0.mk (Kd.R_below (Xq HO346) hb); replace HO352 := Aside0.mk (Kd.S_below (Xq HO352) hb); replace HO356 := Aside0.mk (Kd.R_below (Xq HO356) hb); replace HO359 := Aside0.mk (Kd.R_below (Xq HO359) hb); have BK360 := Aside0.mk (hbox); have GE360 := Xge hg Xi; replace HB := Aside0.mk (below_step Xi hb); have NB332_360 := Xnb hg BK332; have NB360_332 := Xns NB332_360; replace BK332 := Xbb BK332 hb; have NB333_360 := Xnb hg BK333; have NB360_333 := Xns NB333_360; replace BK333 := Xbb BK333 hb; have NB353_360 := Xnb hg BK353; have NB360_353 := Xns NB353_360; replace BK353 := Xbb BK353 hb; clear hb hbox hg; obtain ⟨Ao43, co43, eo43⟩ := Kd.R_slice HO356.out; subst eo43; have hnb44 := NB360_332.out; have hnc44 := NB332_360.out; have hnb45 := NB360_333.out; have hnc45 := NB333_360.out; have hnb46 := NB360_353.out; have hnc46 := NB353_360.out; obtain ⟨hcz47_0, hcz47_1⟩ := Xc2 BK360; obtain ⟨hfz47_0, hfz47_1⟩ := Xf2 BK360; obtain ⟨Ao48, co48, eo48⟩ := Kd.R_slice HO359.out; subst eo48; obtain ⟨hcz49_0, hcz49_1, hcz49_2⟩ := Xc3 BK353; obtain ⟨hfz49_0, hfz49_1, hfz49_2⟩ := Xf3 BK353) | ((with_reducible refine gate_callee (f := 15) rfl ?_); refine Xgo 31 Try.func15 #[.agg #[.int .i64 t348, .int .i64 t349, .slice Ao38 t350.length co38], .agg #[.slice Ao43 t354.length co43, .slice Ao48 t357.length co48]] ?_; (with_reducible refine (impl_TableOK.calls k t348 t349 _ _ t350 _ _ t354 _ _ t357 t361 _ ?side1 ?side2 ?side3 ?side4 ?side5 ?side6 A22.out).mono ?_); (case side1 => refine (Kd.S_reads' (e := 92) (base := w.heap.size) (ok := fun k_ => some k_ ≠ (.slice Ao27 t338.length co27 : Value).ownBlock) (n := t350.length) (c := co38) ?_).2.2; exact (by (with_reducible repeat (first | apply Kd.S_alloc | apply Kd.S_drewN | apply Kd.S_drew)); exact (Kd.S_mono (Kd.S_far (p := ⟨gb360, 1, none⟩) (Kd.S_far (p := ⟨gb360, 0, none⟩) (Kd.S_types HO352.out BK360.out (by decide)) (fun _ hk => hk.2) (.slice Ao43 t354.length co43)) (fun _ hk => hk.2) (.slice Ao48 t357.length co48)) (fun _ h_ => h_.1)))); (case side2 => exact (Kd.S_reads' HO352.out).2.1); (case side3 => refine (Kd.R_reads' (e := 55) (base := w.heap.size) (ok := fun k_ => ((some k_ ≠ (.slice Ao48 t357.length co48 : Value).ownBlock ∧ some k_ ≠ (.slice Ao28 t341.length co28 : Value).ownBlock) ∧ some k_ ≠ (.slice Ao29 t344.length co29 : Value).ownBlock)) (n := t354.length) (c := co43) ?_).2.2; exact (by (with_reducible repeat (first | apply Kd.R_alloc | apply Kd.R_drewN | apply Kd.R_drew)); exact (Kd.R_mono (Kd.R_far (p := ⟨gb360, 1, none⟩) (Kd.R_far (p := ⟨gb360, 0, none⟩) (Kd.R_types HO356.out BK360.out (by decide)) (fun _ hk => hk.2) (.slice Ao43 t354.length co43)) (fun _ hk => hk.2) (.slice Ao48 t357.length co48)) (fun _ h_ => h_.1)))); (case side4 => exact (Kd.R_reads' HO356.out).2.1); (case side5 => refine (Kd.R_reads' (e := 55) (base := w.heap.size) (ok := fun k_ => ((some k_ ≠ (.slice Ao43 t354.length co43 : Value).ownBlock ∧ some k_ ≠ (.slice Ao28 t341.length co28 : Value).ownBlock) ∧ some k_ ≠ (.slice Ao29 t344.length co29 : Value).ownBlock)) (n := t357.length) (c := co48) ?_).2.2; exact (by (with_reducible repeat (first | apply Kd.R_alloc | apply Kd.R_drewN | apply Kd.R_drew)); exact (Kd.R_mono (Kd.R_far (p := ⟨gb360, 1, none⟩) (Kd.R_far (p := ⟨gb360, 0, none⟩) (Kd.R_types HO359.out BK360.out (by decide)) (fun _ hk => hk.2) (.slice Ao43 t354.length co43)) (fun _ hk => hk.2) (.slice Ao48 t357.length co48)) (fun _ h_ => h_.1)))); (case side6 => exact (Kd.R_reads' HO359.out).2.1); rintro e w50 ⟨rfl, hb⟩; refine ⟨_, rfl, ?_⟩; replace HO340 := Aside0.mk (Kd.S_below (by (with_reducible repeat (first | apply Kd.S_alloc | apply Kd.S_drewN | apply Kd.S_drew)); exact (Kd.S_mono (Kd.S_far (p := ⟨gb360, 1, none⟩) (Kd.S_far (p := ⟨gb360, 0, none⟩) (Kd.S_types HO340.out BK360.out (by decide)) (fun _ hk => hk.2) (.slice Ao43 t354.length co43)) (fun _ hk => hk.2) (.slice Ao48 t357.length co48)) (fun _ h_ => h_.1))) hb); replace HO343 := Aside0.mk (Kd.R_below (by (with_reducible repeat (first | apply Kd.R_alloc | apply Kd.R_drewN | apply Kd.R_drew)); exact (Kd.R_mono (Kd.R_far (p := ⟨gb360, 1, none⟩) (Kd.R_far (p := ⟨gb360, 0, none⟩) (Kd.R_types HO343.out BK360.out (by decide)) (fun _ hk => hk.2) (.slice Ao43 t354.length co43)) (fun _ hk => hk.2) (.slice Ao48 t357.length co48)) (fun _ h_ => h_.1))) hb); replace HO346 := Aside0.mk (Kd.R_below (by (with_reducible repeat (first | apply Kd.R_alloc | apply Kd.R_drewN | apply Kd.R_drew)); exact (Kd.R_mono (Kd.R_far (p := ⟨gb360, 1, none⟩) (Kd.R_far (p := ⟨gb360, 0, none⟩) (Kd.R_types HO346.out BK360.out (by decide)) (fun _ hk => hk.2) (.slice Ao43 t354.length co43)) (fun _ hk => hk.2) (.slice Ao48 t357.length co48)) (fun _ h_ => h_.1))) hb); replace HO352 := Aside0.mk (Kd.S_below (by (with_reducible repeat (first | apply Kd.S_alloc | apply Kd.S_drewN | apply Kd.S_drew)); exact (Kd.S_mono (Kd.S_far (p := ⟨gb360, 1, none⟩) (Kd.S_far (p := ⟨gb360, 0, none⟩) (Kd.S_types HO352.out BK360.out (by decide)) (fun _ hk => hk.2) (.slice Ao43 t354.length co43)) (fun _ hk => hk.2) (.slice Ao48 t357.length co48)) (fun _ h_ => h_.1))) hb); replace HO356 := Aside0.mk (Kd.R_below (by (with_reducible repeat (first | apply Kd.R_alloc | apply Kd.R_drewN | apply Kd.R_drew)); exact (Kd.R_mono (Kd.R_far (p := ⟨gb360, 1, none⟩) (Kd.R_far (p := ⟨gb360, 0, none⟩) (Kd.R_types HO356.out BK360.out (by decide)) (fun _ hk => hk.2) (.slice Ao43 t354.length co43)) (fun _ hk => hk.2) (.slice Ao48 t357.length co48)) (fun _ h_ => h_.1))) hb); replace HO359 := Aside0.mk (Kd.R_below (by (with_reducible repeat (first | apply Kd.R_alloc | apply Kd.R_drewN | apply Kd.R_drew)); exact (Kd.R_mono (Kd.R_far (p := ⟨gb360, 1, none⟩) (Kd.R_far (p := ⟨gb360, 0, none⟩) (Kd.R_types HO359.out BK360.out (by decide)) (fun _ hk => hk.2) (.slice Ao43 t354.length co43)) (fun _ hk => hk.2) (.slice Ao48 t357.length co48)) (fun _ h_ => h_.1))) hb); replace BK332 := Aside0.mk (blk_below (g := gb332) (o := .cells #[.int .i64 a0_0, .int .i64 a0_1, .slice A0_2 l0_2.length c0_2] 24 (0, 0)) (by (with_reducible repeat (first | refine blk_drewN ?_ _ | refine blk_drew ?_ | refine blk_alloc ?_ _)); refine blk_far ?_ NB332_360.out _; (with_reducible repeat (first | refine blk_drewN ?_ _ | refine blk_drew ?_ | refine blk_alloc ?_ _)); refine blk_far ?_ NB332_360.out _; (with_reducible repeat (first | refine blk_drewN ?_ _ | refine blk_drew ?_ | refine blk_alloc ?_ _)); exact BK332.out) hb); replace BK333 := Aside0.mk (blk_below (g := gb333) (o := .cells #[.slice A1_0 l1_0.length c1_0, .slice A1_1 l1_1.length c1_1] 27 (0, 0)) (by (with_reducible repeat (first | refine blk_drewN ?_ _ | refine blk_drew ?_ | refine blk_alloc ?_ _)); refine blk_far ?_ NB333_360.out _; (with_reducible repeat (first | refine blk_drewN ?_ _ | refine blk_drew ?_ | refine blk_alloc ?_ _)); refine blk_far ?_ NB333_360.out _; (with_reducible repeat (first | refine blk_drewN ?_ _ | refine blk_drew ?_ | refine blk_alloc ?_ _)); exact BK333.out) hb); replace BK353 := Aside0.mk (blk_below (g := gb353) (o := .cells #[.int .i64 t348, .int .i64 t349, .slice Ao38 t350.length co38] 33 (0, 0)) (by (with_reducible repeat (first | refine blk_drewN ?_ _ | refine blk_drew ?_ | refine blk_alloc ?_ _)); refine blk_far ?_ NB353_360.out _; (with_reducible repeat (first | refine blk_drewN ?_ _ | refine blk_drew ?_ | refine blk_alloc ?_ _)); refine blk_far ?_ NB353_360.out _; (with_reducible repeat (first | refine blk_drewN ?_ _ | refine blk_drew ?_ | refine blk_alloc ?_ _)); exact BK353.out) hb); replace BK360 := Aside0.mk (blk_below (g := gb360) (o := .cells #[.slice Ao43 t354.length co43, .slice Ao48 t357.length co48] 37 (0, 0)) (by (with_reducible repeat (first | refine blk_drewN ?_ _ | refine blk_drew ?_ | refine blk_alloc ?_ _)); refine blk_put (cs := #[.slice Ao43 t354.length co43, .slice none 0 0]) ?_ 1 _ rfl; (with_reducible repeat (first | refine blk_drewN ?_ _ | refine blk_drew ?_ | refine blk_alloc ?_ _)); refine blk_put (cs := #[.slice none 0 0, .slice none 0 0]) ?_ 0 _ rfl; (with_reducible repeat (first | refine blk_drewN ?_ _ | refine blk_drew ?_ | refine blk_alloc ?_ _)); exact BK360.out) hb); replace HB := Aside0.mk (below_step Xi hb); clear hb))
   have H := HC23.out
   clear HC23
   obtain ⟨c51, H⟩ | ⟨c51, H⟩ := Xiu H
   ·have c51b0 : (t361 != t347) = true := c51
    (try (have c51b1 : decide (t361 = t347) = false := by simpa using c51))
    (try (have c51b2 : (t361 == t347) = false := by simpa using c51))
    (try (have c51b3 : ¬ (t361 = t347) := by simpa using c51))
    (try (have c51b4 : ((!t361) == t347) = true := by revert c51; cases t361 <;> cases t347 <;> simp))
    clear c51
    (first | rw [c51b0] | (simp only [i64_w, i32_w]; rw [c51b0]) | simp only [c51b2, Bool.not_true, Bool.not_false] | skip)
    cases H
   ·have c51b0 : (t361 != t347) = false := by simpa using c51
    (try (have c51b1 : decide (t361 = t347) = true := by simpa using c51))
    (try (have c51b2 : (t361 == t347) = true := by simpa using c51))
    (try (have c51b3 : ((!t361) == t347) = false := by revert c51; cases t361 <;> cases t347 <;> simp))
    clear c51
    (first | rw [c51b0] | (simp only [i64_w, i32_w]; rw [c51b0]) | simp only [c51b2, Bool.not_true, Bool.not_false] | skip)
    replace H := Option.bind_eq_some_iff.mp H
    obtain ⟨⟨t362, t363, t364⟩, A520, H⟩ := H
    (try dsimp only at H)
    have A52 := Aside0.mk A520
    clear A520
    obtain ⟨t367, A53, H⟩ := Xbi H
    (try dsimp only at H)
    have HC54 := Aside0.mk H
    clear H
    try go_wp2_with (fail)
    replace HO340 := Aside0.mk (Kd.S_drew HO340.out)
    replace HO343 := Aside0.mk (Kd.R_drew HO343.out)
    replace HO346 := Aside0.mk (Kd.R_drew HO346.out)
    replace HO352 := Aside0.mk (Kd.S_drew HO352.out)
    replace HO356 := Aside0.mk (Kd.R_drew HO356.out)
    replace HO359 := Aside0.mk (Kd.R_drew HO359.out)
    replace BK332 := Aside0.mk (blk_drew BK332.out)
    replace BK333 := Aside0.mk (blk_drew BK333.out)
    replace BK353 := Aside0.mk (blk_drew BK353.out)
    replace BK360 := Aside0.mk (blk_drew BK360.out)
    replace HB := Aside0.mk (below_drew1 HB.out)
    refine start_ (n := 5) (S := fun w' => w'.cell? ⟨gb353, 0, none⟩ = some (.int .i64 t348) ∧ w'.cell? ⟨gb353, 1, none⟩ = some (.int .i64 t349) ∧ w'.cell? ⟨gb353, 2, none⟩ = some (.slice Ao38 t350.length co38) ∧ w'.cell? ⟨gb332, 0, none⟩ = some (.int .i64 a0_0) ∧ w'.cell? ⟨gb332, 1, none⟩ = some (.int .i64 a0_1) ∧ w'.cell? ⟨gb332, 2, none⟩ = some (.slice A0_2 l0_2.length c0_2)) (ds := []) #[false, false, false, false, false] (by kernel_rfl) rfl rfl ⟨(blk_cell BK353.out 0).trans rfl, (blk_cell BK353.out 1).trans rfl, (blk_cell BK353.out 2).trans rfl, (blk_cell BK332.out 0).trans rfl, (blk_cell BK332.out 1).trans rfl, (blk_cell BK332.out 2).trans rfl⟩ (fun hHeld => ?_)
    generalize w50.drew = w55 at HO340 HO343 HO346 HO352 HO356 HO359 BK332 BK333 BK353 BK360 HB hHeld ⊢
    refine take_ (i := 0) (N := some 35) (v := ?_) (a' := ?_) #[true, false, false, false, false] rfl rfl (by kernel_rfl) (fun _ _ _ h => h) (Or.inl ⟨by rfl, ?_⟩) hHeld ?_ ?_
    rotate_left
    ·rintro w' ⟨s0, s1, s2, s3, s4, s5⟩
     go_simp
     with_reducible rfl
    rotate_left
    ·simp only [XW.q0, XW.q1, XW.q2, i64_w, i32_w]
     rfl
    refine take_ (i := 1) (N := some 36) (v := ?_) (a' := ?_) #[true, true, false, false, false] rfl rfl (by kernel_rfl) (fun _ _ _ h => h) (Or.inl ⟨by rfl, ?_⟩) hHeld ?_ ?_
    rotate_left
    ·rintro w' ⟨s0, s1, s2, s3, s4, s5⟩
     go_simp
     with_reducible rfl
    rotate_left
    ·simp only [XW.q0, XW.q1, XW.q2, i64_w, i32_w]
     rfl
    refine one_ (i := 2) (N := some 37) #[true, true, true, false, false] rfl rfl (by kernel_rfl) (by decide) (fun K hK => ?_)
    refine goes_ Try.func13 (by kernel_rfl) rfl #[.agg #[.int .i64 a0_0, .int .i64 a0_1, .slice A0_2 l0_2.length c0_2]] (by rfl) rfl rfl (by (try simp only [List.map_toArray, List.map_cons, List.map_nil]); first | done | rfl | (simp only [List.length_drop, List.length_take]; rfl)) ?_
    with_reducible refine (laws_toDoc.calls k a0_0 a0_1 _ _ l0_2 t362 t363 t364 _ ?side1 ?side2 A52.out).mono ?_
    (case side1 => exact Xc HR0_2)
    (case side2 => exact HC0_2.out)
    rintro e w56 ⟨v365, rfl, ho0, hb⟩
    refine ⟨_, rfl, ?_⟩
    replace HO343 := Aside0.mk (Kd.R_below (Xq HO343) hb)
    replace HO346 := Aside0.mk (Kd.R_below (Xq HO346) hb)
    replace HO356 := Aside0.mk (Kd.R_below (Xq HO356) hb)
    replace HO359 := Aside0.mk (Kd.R_below (Xq HO359) hb)
    have HO366 := Aside0.mk (Kd.S_lower (Kd.S_new' (Kd.S_new' ho0 (Kd.S_lt (Xq HO340))) (Kd.S_lt (Xq HO352))) (below_size Xi))
    replace HO340 := Aside0.mk (Kd.S_elder' (Xq HO340) (Kd.S_base ho0) hb)
    replace HO352 := Aside0.mk (Kd.S_elder' (Xq HO352) (Kd.S_base ho0) hb)
    replace BK332 := Xbb BK332 hb
    replace BK333 := Xbb BK333 hb
    replace BK353 := Xbb BK353 hb
    replace BK360 := Xbb BK360 hb
    replace HB := Aside0.mk (below_step Xi hb)
    (try clear hb)
    (try clear hb2)
    (try clear hk)
    (try clear hi)
    (try clear ho0)
    obtain ⟨Ao57, co57, eo57⟩ := Kd.S_slice HO366.out
    (first | subst eo57 | (injection eo57 with f1_ f2_ f3_; have f4_ := f1_.symm; have f5_ := f3_.symm; clear f1_ f2_ f3_; subst f4_; subst f5_))
    refine hK.out _ _ ⟨(blk_cell BK353.out 0).trans rfl, (blk_cell BK353.out 1).trans rfl, (blk_cell BK353.out 2).trans rfl, (blk_cell BK332.out 0).trans rfl, (blk_cell BK332.out 1).trans rfl, (blk_cell BK332.out 2).trans rfl⟩ (fun hHeld => ?_)
    clear hK K
    refine Xno ?_
    refine one_ (i := 3) (N := some 38) #[true, true, true, true, false] rfl rfl (by kernel_rfl) (by decide) (fun K hK => ?_)
    refine goes_ Try.func16 (by kernel_rfl) rfl #[.agg #[.int .i64 t348, .int .i64 t349, .slice Ao38 t350.length co38], .agg #[.int .i64 t362, .int .i64 t363, .slice Ao57 t364.length co57]] (by rfl) rfl rfl (by (try simp only [List.map_toArray, List.map_cons, List.map_nil]); first | done | rfl | (simp only [List.length_drop, List.length_take]; rfl)) ?_
    with_reducible refine (laws_eqDoc.calls k t348 t349 _ _ t350 t362 t363 _ _ t364 t367 _ ?side1 ?side2 ?side3 ?side4 A53.out).mono ?_
    (case side1 => repeat (first | exact (Kd.S_reads' HO352.out).2.2 | (with_reducible first | refine Kd.C_alloc ?_ _ | refine Kd.C_drewN ?_ _ | refine Kd.C_drew ?_)))
    (case side2 => exact (Kd.S_reads' HO352.out).2.1)
    (case side3 => repeat (first | exact (Kd.S_reads' HO366.out).2.2 | (with_reducible first | refine Kd.C_alloc ?_ _ | refine Kd.C_drewN ?_ _ | refine Kd.C_drew ?_)))
    (case side4 => exact (Kd.S_reads' HO366.out).2.1)
    rintro e w58 ⟨rfl, hb⟩
    refine ⟨_, rfl, ?_⟩
    replace HO340 := Aside0.mk (Kd.S_below (Xq HO340) hb)
    replace HO343 := Aside0.mk (Kd.R_below (Xq HO343) hb)
    replace HO346 := Aside0.mk (Kd.R_below (Xq HO346) hb)
    replace HO352 := Aside0.mk (Kd.S_below (Xq HO352) hb)
    replace HO356 := Aside0.mk (Kd.R_below (Xq HO356) hb)
    replace HO359 := Aside0.mk (Kd.R_below (Xq HO359) hb)
    replace HO366 := Aside0.mk (Kd.S_below (Xq HO366) hb)
    replace BK332 := Xbb BK332 hb
    replace BK333 := Xbb BK333 hb
    replace BK353 := Xbb BK353 hb
    replace BK360 := Xbb BK360 hb
    replace HB := Aside0.mk (below_step Xi hb)
    (try clear hb)
    (try clear hb2)
    (try clear hk)
    (try clear hi)
    refine hK.out _ _ ⟨(blk_cell BK353.out 0).trans rfl, (blk_cell BK353.out 1).trans rfl, (blk_cell BK353.out 2).trans rfl, (blk_cell BK332.out 0).trans rfl, (blk_cell BK332.out 1).trans rfl, (blk_cell BK332.out 2).trans rfl⟩ (fun hHeld => ?_)
    clear hK K
    refine Xno ?_
    refine pure_ (i := 4) (N := some 39) (v := ?_) (a' := ?_) #[true, true, true, true, true] rfl rfl (by kernel_rfl) (fun _ _ _ h => h) (Or.inl ⟨by rfl, ?_⟩) ?_ ?_
    rotate_left
    ·intro w'
     go_simp
     with_reducible rfl
    rotate_left
    ·simp only [XW.q0, XW.q1, XW.q2, i64_w, i32_w]
     rfl
    refine done_ (by kernel_rfl) ?_
    go_upto_if 39 with (fail)
    have H := HC54.out
    clear HC54
    by_cases c59 : t367 = true
    ·subst c59
     (first | rw [if_pos rfl] at H | skip)
     replace H := Option.bind_eq_some_iff.mp H
     obtain ⟨⟨t368, t371⟩, A600, H⟩ := H
     (try dsimp only at H)
     have A60 := Aside0.mk A600
     clear A600
     obtain ⟨t374, A61, H⟩ := Xbi H
     (try dsimp only at H)
     have HC62 := Aside0.mk H
     clear H
     try go_wp2_with (fail)
     replace HO340 := Aside0.mk (Kd.S_drew HO340.out)
     replace HO343 := Aside0.mk (Kd.R_drew HO343.out)
     replace HO346 := Aside0.mk (Kd.R_drew HO346.out)
     replace HO352 := Aside0.mk (Kd.S_drew HO352.out)
     replace HO356 := Aside0.mk (Kd.R_drew HO356.out)
     replace HO359 := Aside0.mk (Kd.R_drew HO359.out)
     replace HO366 := Aside0.mk (Kd.S_drew HO366.out)
     replace BK332 := Aside0.mk (blk_drew BK332.out)
     replace BK333 := Aside0.mk (blk_drew BK333.out)
     replace BK353 := Aside0.mk (blk_drew BK353.out)
     replace BK360 := Aside0.mk (blk_drew BK360.out)
     replace HB := Aside0.mk (below_drew1 HB.out)
     refine start_ (n := 5) (S := fun w' => w'.cell? ⟨gb360, 0, none⟩ = some (.slice Ao43 t354.length co43) ∧ w'.cell? ⟨gb360, 1, none⟩ = some (.slice Ao48 t357.length co48) ∧ w'.cell? ⟨gb333, 0, none⟩ = some (.slice A1_0 l1_0.length c1_0) ∧ w'.cell? ⟨gb333, 1, none⟩ = some (.slice A1_1 l1_1.length c1_1)) (ds := []) #[false, false, false, false, false] (by kernel_rfl) rfl rfl ⟨(blk_cell BK360.out 0).trans rfl, (blk_cell BK360.out 1).trans rfl, (blk_cell BK333.out 0).trans rfl, (blk_cell BK333.out 1).trans rfl⟩ (fun hHeld => ?_)
     generalize w58.drew = w63 at HO340 HO343 HO346 HO352 HO356 HO359 HO366 BK332 BK333 BK353 BK360 HB hHeld ⊢
     refine take_ (i := 0) (N := some 40) (v := ?_) (a' := ?_) #[true, false, false, false, false] rfl rfl (by kernel_rfl) (fun _ _ _ h => h) (Or.inl ⟨by rfl, ?_⟩) hHeld ?_ ?_
     rotate_left
     ·rintro w' ⟨s0, s1, s2, s3⟩
      go_simp
      with_reducible rfl
     rotate_left
     ·simp only [XW.q0, XW.q1, XW.q2, i64_w, i32_w]
      rfl
     refine take_ (i := 1) (N := some 41) (v := ?_) (a' := ?_) #[true, true, false, false, false] rfl rfl (by kernel_rfl) (fun _ _ _ h => h) (Or.inl ⟨by rfl, ?_⟩) hHeld ?_ ?_
     rotate_left
     ·rintro w' ⟨s0, s1, s2, s3⟩
      go_simp
      with_reducible rfl
     rotate_left
     ·simp only [XW.q0, XW.q1, XW.q2, i64_w, i32_w]
      rfl
     refine one_ (i := 2) (N := some 42) #[true, true, true, false, false] rfl rfl (by kernel_rfl) (by decide) (fun K hK => ?_)
     refine goes_ Try.func14 (by kernel_rfl) rfl #[.agg #[.slice A1_0 l1_0.length c1_0, .slice A1_1 l1_1.length c1_1]] (by rfl) rfl rfl (by (try simp only [List.map_toArray, List.map_cons, List.map_nil]); first | done | rfl | (simp only [List.length_drop, List.length_take]; rfl)) ?_
     with_reducible refine (laws_toTable.calls k _ _ l1_0 _ _ l1_1 t368 t371 _ ?side1 ?side2 ?side3 ?side4 A60.out).mono ?_
     (case side1 => exact Xc HR1_0)
     (case side2 => exact HC1_0.out)
     (case side3 => exact Xc HR1_1)
     (case side4 => exact HC1_1.out)
     rintro e w64 ⟨v369, v372, rfl, ho0, ho1, hb⟩
     refine ⟨_, rfl, ?_⟩
     replace HO340 := Aside0.mk (Kd.S_below (Xq HO340) hb)
     replace HO352 := Aside0.mk (Kd.S_below (Xq HO352) hb)
     replace HO366 := Aside0.mk (Kd.S_below (Xq HO366) hb)
     have HO370 := Aside0.mk (Kd.R_lower (Kd.R_new' (Kd.R_new' (Kd.R_new' (Kd.R_new' ho0 (Kd.R_lt (Xq HO343))) (Kd.R_lt (Xq HO346))) (Kd.R_lt (Xq HO356))) (Kd.R_lt (Xq HO359))) (below_size Xi))
     have HO373 := Aside0.mk (Kd.R_lower (Kd.R_new' (Kd.R_new' (Kd.R_new' (Kd.R_new' ho1 (Kd.R_lt (Xq HO343))) (Kd.R_lt (Xq HO346))) (Kd.R_lt (Xq HO356))) (Kd.R_lt (Xq HO359))) (below_size Xi))
     replace HO343 := Aside0.mk (Kd.R_mono (Kd.R_told (Kd.R_told (Kd.R_old (Xq HO343) hb) (Kd.R_base ho0)) (Kd.R_base ho1)) (fun _ h_ => h_.1))
     replace HO346 := Aside0.mk (Kd.R_mono (Kd.R_told (Kd.R_told (Kd.R_old (Xq HO346) hb) (Kd.R_base ho0)) (Kd.R_base ho1)) (fun _ h_ => h_.1))
     replace HO356 := Aside0.mk (Kd.R_mono (Kd.R_told (Kd.R_told (Kd.R_old (Xq HO356) hb) (Kd.R_base ho0)) (Kd.R_base ho1)) (fun _ h_ => h_.1))
     replace HO359 := Aside0.mk (Kd.R_mono (Kd.R_told (Kd.R_told (Kd.R_old (Xq HO359) hb) (Kd.R_base ho0)) (Kd.R_base ho1)) (fun _ h_ => h_.1))
     replace BK332 := Xbb BK332 hb
     replace BK333 := Xbb BK333 hb
     replace BK353 := Xbb BK353 hb
     replace BK360 := Xbb BK360 hb
     replace HB := Aside0.mk (below_step Xi hb)
     (try clear hb)
     (try clear hb2)
     (try clear hk)
     (try clear hi)
     (try clear ho0)
     (try clear ho1)
     obtain ⟨Ao65, co65, eo65⟩ := Kd.R_slice HO370.out
     (first | subst eo65 | (injection eo65 with f1_ f2_ f3_; have f4_ := f1_.symm; have f5_ := f3_.symm; clear f1_ f2_ f3_; subst f4_; subst f5_))
     obtain ⟨Ao66, co66, eo66⟩ := Kd.R_slice HO373.out
     (first | subst eo66 | (injection eo66 with f1_ f2_ f3_; have f4_ := f1_.symm; have f5_ := f3_.symm; clear f1_ f2_ f3_; subst f4_; subst f5_))
     refine hK.out _ _ ⟨(blk_cell BK360.out 0).trans rfl, (blk_cell BK360.out 1).trans rfl, (blk_cell BK333.out 0).trans rfl, (blk_cell BK333.out 1).trans rfl⟩ (fun hHeld => ?_)
     clear hK K
     refine Xno ?_
     refine one_ (i := 3) (N := some 43) #[true, true, true, true, false] rfl rfl (by kernel_rfl) (by decide) (fun K hK => ?_)
     refine goes_ Try.func17 (by kernel_rfl) rfl #[.agg #[.slice Ao43 t354.length co43, .slice Ao48 t357.length co48], .agg #[.slice Ao65 t368.length co65, .slice Ao66 t371.length co66]] (by rfl) rfl rfl (by (try simp only [List.map_toArray, List.map_cons, List.map_nil]); first | done | rfl | (simp only [List.length_drop, List.length_take]; rfl)) ?_
     with_reducible refine (laws_eqTable.calls k _ _ t354 _ _ t357 _ _ t368 _ _ t371 t374 _ ?side1 ?side2 ?side3 ?side4 ?side5 ?side6 ?side7 ?side8 A61.out).mono ?_
     (case side1 => repeat (first | exact (Kd.R_reads' HO356.out).2.2 | (with_reducible first | refine Kd.C_alloc ?_ _ | refine Kd.C_drewN ?_ _ | refine Kd.C_drew ?_)))
     (case side2 => exact (Kd.R_reads' HO356.out).2.1)
     (case side3 => repeat (first | exact (Kd.R_reads' HO359.out).2.2 | (with_reducible first | refine Kd.C_alloc ?_ _ | refine Kd.C_drewN ?_ _ | refine Kd.C_drew ?_)))
     (case side4 => exact (Kd.R_reads' HO359.out).2.1)
     (case side5 => repeat (first | exact (Kd.R_reads' HO370.out).2.2 | (with_reducible first | refine Kd.C_alloc ?_ _ | refine Kd.C_drewN ?_ _ | refine Kd.C_drew ?_)))
     (case side6 => exact (Kd.R_reads' HO370.out).2.1)
     (case side7 => repeat (first | exact (Kd.R_reads' HO373.out).2.2 | (with_reducible first | refine Kd.C_alloc ?_ _ | refine Kd.C_drewN ?_ _ | refine Kd.C_drew ?_)))
     (case side8 => exact (Kd.R_reads' HO373.out).2.1)
     rintro e w67 ⟨rfl, hb⟩
     refine ⟨_, rfl, ?_⟩
     replace HO340 := Aside0.mk (Kd.S_below (Xq HO340) hb)
     replace HO343 := Aside0.mk (Kd.R_below (Xq HO343) hb)
     replace HO346 := Aside0.mk (Kd.R_below (Xq HO346) hb)
     replace HO352 := Aside0.mk (Kd.S_below (Xq HO352) hb)
     replace HO356 := Aside0.mk (Kd.R_below (Xq HO356) hb)
     replace HO359 := Aside0.mk (Kd.R_below (Xq HO359) hb)
     replace HO366 := Aside0.mk (Kd.S_below (Xq HO366) hb)
     replace HO370 := Aside0.mk (Kd.R_below (Xq HO370) hb)
     replace HO373 := Aside0.mk (Kd.R_below (Xq HO373) hb)
     replace BK332 := Xbb BK332 hb
     replace BK333 := Xbb BK333 hb
     replace BK353 := Xbb BK353 hb
     replace BK360 := Xbb BK360 hb
     replace HB := Aside0.mk (below_step Xi hb)
     (try clear hb)
     (try clear hb2)
     (try clear hk)
     (try clear hi)
     refine hK.out _ _ ⟨(blk_cell BK360.out 0).trans rfl, (blk_cell BK360.out 1).trans rfl, (blk_cell BK333.out 0).trans rfl, (blk_cell BK333.out 1).trans rfl⟩ (fun hHeld => ?_)
     clear hK K
     refine Xno ?_
     refine pure_ (i := 4) (N := some 44) (v := ?_) (a' := ?_) #[true, true, true, true, true] rfl rfl (by kernel_rfl) (fun _ _ _ h => h) (Or.inl ⟨by rfl, ?_⟩) ?_ ?_
     rotate_left
     ·intro w'
      go_simp
      with_reducible rfl
     rotate_left
     ·simp only [XW.q0, XW.q1, XW.q2, i64_w, i32_w]
      rfl
     refine done_ (by kernel_rfl) ?_
     go_upto_if 44 with (fail)
     have H := HC62.out
     clear HC62
     by_cases c68 : t374 = true
     ·subst c68
      (first | rw [if_pos rfl] at H | skip)
      go_wp2
      go_ret
      exact ⟨Xe, Xi⟩
     ·replace c68 := Bool.eq_false_iff.mpr c68
      subst c68
      (first | rw [if_neg (show ¬ (false = true) by decide)] at H | skip)
      cases H
    ·replace c59 := Bool.eq_false_iff.mpr c59
     subst c59
     (first | rw [if_neg (show ¬ (false = true) by decide)] at H | skip)
     cases H

end Go.Proofs.Ytnanfenogmpemaa.XA
