/- Contracts of the program's functions: each Go function that is named below comes to what its Lean function says. Written by xprint.py (a program of this session's, over the kit's print). Conditions: each contract's own premises. -/
import Derived.Test.YtahhgjkgfbppeaaGreatYConflictsOf0
import Derived.Test.YtahhgjkgfbppeaaGreatYConflictsOf1
import Derived.Test.YtahhgjkgfbppeaaGreatYConflictsOf9
import Derived.Test.YtahhgjkgfbppeaaGreatYConflictsOf10
import Derived.Test.YtahhgjkgfbppeaaGreatYConflictsOf18
import Derived.Test.YtahhgjkgfbppeaaGreatYConflictsOf19
import Derived.Test.YtahhgjkgfbppeaaGreatYConflictsOf20
import Derived.Test.YtahhgjkgfbppeaaGreatYConflictsOfMarkDoc
namespace Go.Proofs.YtahhgjkgfbppeaaGreat.XA
open Go.RowKit Go.Proofs.YtahhgjkgfbppeaaGreatW.PrintWords Go.Proofs.YtahhgjkgfbppeaaGreatW.PrintLast Go.Proofs.YtahhgjkgfbppeaaGreatW.PrintMore XW
attribute [local go_sem] max2_int min2_int max_two min_two max_three min_three max_four min_four   -- for this text's walks alone
set_option linter.unusedVariables false
set_option linter.unusedSimpArgs false

/-! ### laws_FnExactConflictsOf: function 3 -/
mutual
def laws_FnExactConflictsOf.j0 : Nat → List (S27) → List Int → Int → List (S39) → List Int → Int → Bool → Int → Int → List (S109) → Int → Int → Int → Int → Int → List (S113) → Option (Bool)
 | 0, _, _, _, _, _, _, _, _, _, _, _, _, _, _, _, _ => none
 | k + 1, x1, x8, x9, x11, x12, x13, x59, x505000, x505001, x505002, x506000, x506001, x506002, x529000, x529001, x529002 => if x59 = true then (some false) else ((laws_toDoc.f k x505000 x505001 x505002).bind fun bt540 => ((laws_eqDoc.f k x529000 x529001 x529002 bt540.1 bt540.2.1 bt540.2.2).bind fun t545 => (if t545 = true then ((laws_toHoldS.f k x1).bind fun t546 => ((laws_eqHoldS.f k x11 t546).bind fun t549 => (if t549 = true then ((laws_markDoc.f k x529000 x529001 x529002 1).bind fun bt550 => ((laws_markHoldS.f k x11 bt550.1).bind fun bt552 => (if bt552.1 < 0 then (laws_FnExactConflictsOf.j1 k x1 x8 x9 x12 true x505000 x505001 x505002 x506000 x506001 x506002) else ((laws_eqIntS.f k x12 x8).bind fun t554 => (if t554 = true then (laws_FnExactConflictsOf.j1 k x1 x8 x9 x12 (x13 != x9) x505000 x505001 x505002 x506000 x506001 x506002) else (laws_FnExactConflictsOf.j1 k x1 x8 x9 x12 true x505000 x505001 x505002 x506000 x506001 x506002)))))) else (some false)))) else (some false))))
def laws_FnExactConflictsOf.j1 : Nat → List (S27) → List Int → Int → List Int → Bool → Int → Int → List (S109) → Int → Int → Int → Option (Bool)
 | 0, _, _, _, _, _, _, _, _, _, _, _ => none
 | k + 1, x1, x8, x9, x12, x88, x505000, x505001, x505002, x506000, x506001, x506002 => if x88 = true then (some false) else ((laws_markIntS.f k x12 1).bind fun bt555 => ((laws_heldIntS.f k bt555.2 1).bind fun t557 => (if t557 < 0 then (some false) else (if t557 = bt555.1 then ((laws_toDoc.f k x505000 x505001 x505002).bind fun bt558 => ((laws_toHoldS.f k x1).bind fun t563 => ((laws_toHold.f x506000 x506001 x506002).bind fun bt566 => ((impl_ConflictsOf.f k bt558.1 bt558.2.1 bt558.2.2 t563 bt566.1 bt566.2.1 bt566.2.2).bind fun bt569 => ((laws_eqIntS.f k bt569.1 x8).bind fun t573 => (if t573 = true then (laws_FnExactConflictsOf.j2 k bt555.2 bt555.1 (bt569.2 != x9)) else (laws_FnExactConflictsOf.j2 k bt555.2 bt555.1 true))))))) else (some false)))))
def laws_FnExactConflictsOf.j2 : Nat → List Int → Int → Bool → Option (Bool)
 | 0, _, _, _ => none
 | k + 1, x12, x15, x118 => if x118 = true then (some false) else ((laws_heldIntS.f k x12 1).bind fun t574 => (if t574 < 0 then (some false) else (if t574 = x15 then (some true) else (some false))))
end
def laws_FnExactConflictsOf.f (k : Nat) (a0_0 : Int) (a0_1 : Int) (l0_2 : List (S109)) (l1 : List (S27)) (a2_0 : Int) (a2_1 : Int) (a2_2 : Int) : Option (Bool) := (laws_szDoc.f k a0_0 a0_1 l0_2 1048576).bind fun t506 => (if t506 < 0 then (some true) else ((laws_szHoldS.f l1 t506).bind fun t507 => (if t507 < 0 then (some true) else ((laws_toDoc.f k a0_0 a0_1 l0_2).bind fun bt508 => ((laws_toHoldS.f k l1).bind fun t513 => ((laws_toHold.f a2_0 a2_1 a2_2).bind fun bt516 => ((spec_ConflictsOf.f k bt508.1 bt508.2.1 bt508.2.2 t513 bt516.1 bt516.2.1 bt516.2.2).bind fun bt519 => ((laws_toDoc.f k a0_0 a0_1 l0_2).bind fun bt523 => ((laws_toHoldS.f k l1).bind fun t529 => ((laws_toHold.f a2_0 a2_1 a2_2).bind fun bt532 => ((impl_ConflictsOf.f k bt523.1 bt523.2.1 bt523.2.2 t529 bt532.1 bt532.2.1 bt532.2.2).bind fun bt535 => ((laws_eqIntS.f k bt535.1 bt519.1).bind fun t539 => (if t539 = true then (laws_FnExactConflictsOf.j0 k l1 bt519.1 bt519.2 t529 bt535.1 bt535.2 (bt535.2 != bt519.2) a0_0 a0_1 l0_2 a2_0 a2_1 a2_2 bt523.1 bt523.2.1 bt523.2.2) else (laws_FnExactConflictsOf.j0 k l1 bt519.1 bt519.2 t529 bt535.1 bt535.2 true a0_0 a0_1 l0_2 a2_0 a2_1 a2_2 bt523.1 bt523.2.1 bt523.2.2))))))))))))))
def laws_FnExactConflictsOf.T8 : Bool × List (List Nat × List Nat) := (true, [([], []), ([0], [0]), ([], []), ([2, 1], [2]), ([], []), ([4, 3], [4]), ([1, 3, 5, 5], [1, 3, 5]), ([6], [6]), ([7], [7]), ([7], [7]), ([8, 6, 0, 1, 2, 3, 4, 5, 6, 7, 8], [8]), ([9, 10, 0, 1, 2, 3, 4, 5, 6, 7, 8, 9, 10], [9])])
def laws_FnExactConflictsOf.B8 : List Nat := [0, 1, 0, 7, 0, 31, 63, 127, 255, 255, 511, 2047]
theorem laws_FnExactConflictsOf.tab8 : rtab .any (opsOf Tryz.f3 8) = laws_FnExactConflictsOf.T8 := by kernel_rfl
theorem laws_FnExactConflictsOf.bits8 : waitsOk laws_FnExactConflictsOf.T8.2 laws_FnExactConflictsOf.B8 = true := by kernel_rfl
def laws_FnExactConflictsOf.T11 : Bool × List (List Nat × List Nat) := (true, [([], []), ([], []), ([], []), ([2], [2]), ([0, 1, 3, 3], [0, 1, 3]), ([4], [4]), ([5], [5]), ([5], [5]), ([6, 4, 0, 1, 2, 3, 4, 5, 6], [6]), ([7, 8, 0, 1, 2, 3, 4, 5, 6, 7, 8], [7])])
def laws_FnExactConflictsOf.B11 : List Nat := [0, 0, 0, 4, 15, 31, 63, 63, 127, 511]
theorem laws_FnExactConflictsOf.tab11 : rtab .any (opsOf Tryz.f3 11) = laws_FnExactConflictsOf.T11 := by kernel_rfl
theorem laws_FnExactConflictsOf.bits11 : waitsOk laws_FnExactConflictsOf.T11.2 laws_FnExactConflictsOf.B11 = true := by kernel_rfl
def laws_FnExactConflictsOf.T31 : Bool × List (List Nat × List Nat) := (true, [([], []), ([0], [0]), ([], []), ([2, 1], [2]), ([], []), ([4, 3], [4]), ([1, 3, 5, 5], [1, 3, 5]), ([6], [6]), ([7], [7]), ([7], [7]), ([8, 6, 0, 1, 2, 3, 4, 5, 6, 7, 8], [8]), ([9, 10, 0, 1, 2, 3, 4, 5, 6, 7, 8, 9, 10], [9])])
def laws_FnExactConflictsOf.B31 : List Nat := [0, 1, 0, 7, 0, 31, 63, 127, 255, 255, 511, 2047]
theorem laws_FnExactConflictsOf.tab31 : rtab .any (opsOf Tryz.f3 31) = laws_FnExactConflictsOf.T31 := by kernel_rfl
theorem laws_FnExactConflictsOf.bits31 : waitsOk laws_FnExactConflictsOf.T31.2 laws_FnExactConflictsOf.B31 = true := by kernel_rfl
set_option maxHeartbeats 8000000 in
set_option maxRecDepth 100000 in
theorem laws_FnExactConflictsOf.calls (k : Nat) (a0_0 : Int) (a0_1 : Int) (A0_2 : Option Addr) (c0_2 : Nat) (l0_2 : List (S109)) (A1 : Option Addr) (c1 : Nat) (l1 : List (S27)) (a2_0 : Int) (a2_1 : Int) (a2_2 : Int) (r : Bool) (w : World) (hr0_2 : Kd.C k109 w A0_2 l0_2.length l0_2) (hc0_2 : l0_2.length ≤ c0_2) (hr1 : Kd.C k27 w A1 l1.length l1) (hc1 : l1.length ≤ c1) (hr_ : r = true) (h : laws_FnExactConflictsOf.f k a0_0 a0_1 l0_2 l1 a2_0 a2_1 a2_2 = some r) :
  Calls Tryz.prog 3 #[.agg #[.int .i64 a0_0, .int .i64 a0_1, .slice A0_2 l0_2.length c0_2], .slice A1 l1.length c1, .agg #[.int .i64 a2_0, .int .i64 a2_1, .int .i64 a2_2]] w fun e w' => e = .returned (.bool r) ∧ Below w.heap.size w w' := by
 subst hr_
 have hu24 := Tryz.underlying24
 have hu27 := Tryz.underlying27
 have hu35 := Tryz.underlying35
 have HR0_2 := Aside0.mk hr0_2
 have HC0_2 := Aside0.mk hc0_2
 clear hr0_2 hc0_2
 have HR1 := Aside0.mk hr1
 have HC1 := Aside0.mk hc1
 clear hr1 hc1
 have HB := Aside0.mk (Below.refl w.heap.size w)
 have H : ((laws_szDoc.f k a0_0 a0_1 l0_2 1048576).bind fun t506 => (if t506 < 0 then (some true) else ((laws_szHoldS.f l1 t506).bind fun t507 => (if t507 < 0 then (some true) else ((laws_toDoc.f k a0_0 a0_1 l0_2).bind fun bt508 => ((laws_toHoldS.f k l1).bind fun t513 => ((laws_toHold.f a2_0 a2_1 a2_2).bind fun bt516 => ((spec_ConflictsOf.f k bt508.1 bt508.2.1 bt508.2.2 t513 bt516.1 bt516.2.1 bt516.2.2).bind fun bt519 => ((laws_toDoc.f k a0_0 a0_1 l0_2).bind fun bt523 => ((laws_toHoldS.f k l1).bind fun t529 => ((laws_toHold.f a2_0 a2_1 a2_2).bind fun bt532 => ((impl_ConflictsOf.f k bt523.1 bt523.2.1 bt523.2.2 t529 bt532.1 bt532.2.1 bt532.2.2).bind fun bt535 => ((laws_eqIntS.f k bt535.1 bt519.1).bind fun t539 => (if t539 = true then (laws_FnExactConflictsOf.j0 k l1 bt519.1 bt519.2 t529 bt535.1 bt535.2 (bt535.2 != bt519.2) a0_0 a0_1 l0_2 a2_0 a2_1 a2_2 bt523.1 bt523.2.1 bt523.2.2) else (laws_FnExactConflictsOf.j0 k l1 bt519.1 bt519.2 t529 bt535.1 bt535.2 true a0_0 a0_1 l0_2 a2_0 a2_1 a2_2 bt523.1 bt523.2.1 bt523.2.2))))))))))))))) = some true := h
 clear h
 obtain ⟨t506, A4, H⟩ := Xbi H
 (try dsimp only at H)
 have HC5 := Aside0.mk H
 clear H
 go_enter Tryz.func3, Tryz.ntmps3
 go_upto_if 23 with (first | ((with_reducible refine gate_dst (N := 3) rfl ?_); refine Xbox 3 #[.int .i64 a0_0, .int .i64 a0_1, .slice A0_2 l0_2.length c0_2] 24 ?_; intro gb504 hg w6 hbox hb; have BK504 := Aside0.mk (hbox); have GE504 := Xge hg Xi; replace HB := Aside0.mk (below_step Xi hb); clear hb hbox hg) | ((with_reducible refine gate_dst (N := 5) rfl ?_); refine Xbox 5 #[.int .i64 a2_0, .int .i64 a2_1, .int .i64 a2_2] 27 ?_; intro gb505 hg w7 hbox hb; have BK505 := Aside0.mk (hbox); have GE505 := Xge hg Xi; replace HB := Aside0.mk (below_step Xi hb); have NB504_505 := Xnb hg BK504; have NB505_504 := Xns NB504_505; replace BK504 := Xbb BK504 hb; clear hb hbox hg; have hnb8 := NB504_505.out; have hnc8 := NB505_504.out; obtain ⟨hcz9_0, hcz9_1, hcz9_2⟩ := Xc3 BK504; obtain ⟨hfz9_0, hfz9_1, hfz9_2⟩ := Xf3 BK504) | ((with_reducible refine gate_callee (f := 7) rfl ?_); refine Xgo 21 Tryz.func7 #[.agg #[.int .i64 a0_0, .int .i64 a0_1, .slice A0_2 l0_2.length c0_2], .int .i64 1048576] ?_; (with_reducible refine (laws_szDoc.calls k a0_0 a0_1 _ _ l0_2 1048576 t506 _ ?side1 ?side2 A4.out).mono ?_); (case side1 => exact Xc HR0_2); (case side2 => exact HC0_2.out); rintro e w10 ⟨rfl, hb⟩; refine ⟨_, rfl, ?_⟩; replace BK504 := Xbb BK504 hb; replace BK505 := Xbb BK505 hb; replace HB := Aside0.mk (below_step Xi hb); clear hb))
 have H := HC5.out
 clear HC5
 obtain ⟨c11b0, H⟩ | ⟨c11b0, H⟩ := Xit H
 ·(first | rw [c11b0] | (simp only [i64_w, i32_w]; rw [c11b0]) | skip)
  go_wp2
  go_ret
  exact ⟨Xe, Xi⟩
 ·(first | rw [c11b0] | (simp only [i64_w, i32_w]; rw [c11b0]) | skip)
  obtain ⟨t507, A12, H⟩ := Xbi H
  (try dsimp only at H)
  have HC13 := Aside0.mk H
  clear H
  go_upto_if 28 with (first | ((with_reducible refine gate_callee (f := 8) rfl ?_); refine Xgo 26 Tryz.func8 #[.slice A1 l1.length c1, .int .i64 t506] ?_; (with_reducible refine (laws_szHoldS.calls _ _ l1 t506 t507 _ ?side1 ?side2 A12.out).mono ?_); (case side1 => exact Xc HR1); (case side2 => exact HC1.out); rintro e w' ⟨rfl, ⟨nd, rfl⟩⟩; refine ⟨_, rfl, ?_⟩))
  (try (rw [drewN_self w10]; generalize hq_ : World.drewN w10 _ = w10; have n0_ : Aside0 (w10.heap[gb504]? = some (.cells #[.int .i64 a0_0, .int .i64 a0_1, .slice A0_2 l0_2.length c0_2] 24 (0, 0))) := ⟨by rw [← hq_]; exact BK504.out⟩; have n1_ : Aside0 (w10.heap[gb505]? = some (.cells #[.int .i64 a2_0, .int .i64 a2_1, .int .i64 a2_2] 27 (0, 0))) := ⟨by rw [← hq_]; exact BK505.out⟩; have n2_ : Aside0 (Below w.heap.size w w10) := ⟨by rw [← hq_]; exact Xi⟩; clear BK504 BK505 HB hq_; have BK504 := n0_; have BK505 := n1_; have HB := n2_; clear n0_ n1_ n2_))
  have H := HC13.out
  clear HC13
  obtain ⟨c14b0, H⟩ | ⟨c14b0, H⟩ := Xit H
  ·(first | rw [c14b0] | (simp only [i64_w, i32_w]; rw [c14b0]) | skip)
   go_wp2
   go_ret
   exact ⟨Xe, Xi⟩
  ·(first | rw [c14b0] | (simp only [i64_w, i32_w]; rw [c14b0]) | skip)
   replace H := Option.bind_eq_some_iff.mp H
   obtain ⟨⟨t508, t509, t510⟩, A150, H⟩ := H
   (try dsimp only at H)
   have A15 := Aside0.mk A150
   clear A150
   obtain ⟨t513, A16, H⟩ := Xbi H
   (try dsimp only at H)
   replace H := Option.bind_eq_some_iff.mp H
   obtain ⟨⟨t516, t517, t518⟩, A170, H⟩ := H
   (try dsimp only at H)
   have A17 := Aside0.mk A170
   clear A170
   replace H := Option.bind_eq_some_iff.mp H
   obtain ⟨⟨t519, t522⟩, A180, H⟩ := H
   (try dsimp only at H)
   have A18 := Aside0.mk A180
   clear A180
   replace H := Option.bind_eq_some_iff.mp H
   obtain ⟨⟨t523, t524, t525⟩, A190, H⟩ := H
   (try dsimp only at H)
   have A19 := Aside0.mk A190
   clear A190
   obtain ⟨t529, A20, H⟩ := Xbi H
   (try dsimp only at H)
   replace H := Option.bind_eq_some_iff.mp H
   obtain ⟨⟨t532, t533, t534⟩, A210, H⟩ := H
   (try dsimp only at H)
   have A21 := Aside0.mk A210
   clear A210
   replace H := Option.bind_eq_some_iff.mp H
   obtain ⟨⟨t535, t538⟩, A220, H⟩ := H
   (try dsimp only at H)
   have A22 := Aside0.mk A220
   clear A220
   have HC23 := Aside0.mk H
   clear H
   try go_wp2
   replace BK504 := Aside0.mk (blk_drew BK504.out)
   replace BK505 := Aside0.mk (blk_drew BK505.out)
   replace HB := Aside0.mk (below_drew1 HB.out)
   refine start_ (n := 12) (S := fun w' => w'.cell? ⟨gb504, 0, none⟩ = some (.int .i64 a0_0) ∧ w'.cell? ⟨gb504, 1, none⟩ = some (.int .i64 a0_1) ∧ w'.cell? ⟨gb504, 2, none⟩ = some (.slice A0_2 l0_2.length c0_2) ∧ w'.cell? ⟨gb505, 0, none⟩ = some (.int .i64 a2_0) ∧ w'.cell? ⟨gb505, 1, none⟩ = some (.int .i64 a2_1) ∧ w'.cell? ⟨gb505, 2, none⟩ = some (.int .i64 a2_2)) (ds := []) #[false, false, false, false, false, false, false, false, false, false, false, false] (by kernel_rfl) rfl rfl ⟨(blk_cell BK504.out 0).trans rfl, (blk_cell BK504.out 1).trans rfl, (blk_cell BK504.out 2).trans rfl, (blk_cell BK505.out 0).trans rfl, (blk_cell BK505.out 1).trans rfl, (blk_cell BK505.out 2).trans rfl⟩ (fun hHeld => ?_); refine with_tabW laws_FnExactConflictsOf.tab8 laws_FnExactConflictsOf.bits8 (fun HT_ HW_ => ?_)
   generalize w10.drew = w24 at BK504 BK505 HB hHeld ⊢
   refine Xpu 2 32 (XW.bs 12 4) HT_.out ?_
   refine Xta 0 30 (XW.bs 12 5) HT_.out HW_.out hHeld ?_
   refine Xta 4 34 (XW.bs 12 21) HT_.out HW_.out hHeld ?_
   refine one_ (i := 1) (N := some 31) (XW.bs 12 23) rfl rfl (one_of HT_.out (by kernel_rfl)) (by decide) (fun K hK => ?_)
   refine goes_ Tryz.func10 (by kernel_rfl) rfl #[.agg #[.int .i64 a0_0, .int .i64 a0_1, .slice A0_2 l0_2.length c0_2]] (by rfl) rfl rfl (by (try simp only [List.map_toArray, List.map_cons, List.map_nil]); first | done | rfl | (simp only [List.length_drop, List.length_take]; rfl)) ?_
   with_reducible refine (laws_toDoc.calls k a0_0 a0_1 _ _ l0_2 t508 t509 t510 _ ?side1 ?side2 A15.out).mono ?_
   (case side1 => exact Xc HR0_2)
   (case side2 => exact HC0_2.out)
   rintro e w25 ⟨v511, rfl, ho0, hb⟩
   refine ⟨_, rfl, ?_⟩
   have HO512 := Aside0.mk (Kd.S_lower ho0 (below_size Xi))
   replace BK504 := Xbb BK504 hb
   replace BK505 := Xbb BK505 hb
   replace HB := Aside0.mk (below_step Xi hb)
   (try clear hb)
   (try clear hb2)
   (try clear hk)
   (try clear hi)
   (try clear ho0)
   refine hK.out _ _ ⟨(blk_cell BK504.out 0).trans rfl, (blk_cell BK504.out 1).trans rfl, (blk_cell BK504.out 2).trans rfl, (blk_cell BK505.out 0).trans rfl, (blk_cell BK505.out 1).trans rfl, (blk_cell BK505.out 2).trans rfl⟩ (fun hHeld => ?_)
   clear hK K
   refine Xno ?_
   refine one_ (i := 3) (N := some 33) (XW.bs 12 31) rfl rfl (one_of HT_.out (by kernel_rfl)) (by decide) (fun K hK => ?_)
   refine goes_ Tryz.func11 (by kernel_rfl) rfl #[.slice A1 l1.length c1] (by rfl) rfl rfl (by (try simp only [List.map_toArray, List.map_cons, List.map_nil]); first | done | rfl | (simp only [List.length_drop, List.length_take]; rfl)) ?_
   with_reducible refine (laws_toHoldS.calls k _ _ l1 t513 _ ?side1 ?side2 A16.out).mono ?_
   (case side1 => exact Xc HR1)
   (case side2 => exact HC1.out)
   rintro e w26 ⟨v514, rfl, ho0, hb⟩
   refine ⟨_, rfl, ?_⟩
   replace HO512 := Aside0.mk (Kd.S_below (Xq HO512) hb)
   have HO515 := Aside0.mk (Kd.R_lower ho0 (below_size Xi))
   replace BK504 := Xbb BK504 hb
   replace BK505 := Xbb BK505 hb
   replace HB := Aside0.mk (below_step Xi hb)
   (try clear hb)
   (try clear hb2)
   (try clear hk)
   (try clear hi)
   (try clear ho0)
   refine hK.out _ _ ⟨(blk_cell BK504.out 0).trans rfl, (blk_cell BK504.out 1).trans rfl, (blk_cell BK504.out 2).trans rfl, (blk_cell BK505.out 0).trans rfl, (blk_cell BK505.out 1).trans rfl, (blk_cell BK505.out 2).trans rfl⟩ (fun hHeld => ?_)
   clear hK K
   refine Xno ?_
   refine one_ (i := 5) (N := some 35) (XW.bs 12 63) rfl rfl (one_of HT_.out (by kernel_rfl)) (by decide) (fun K hK => ?_)
   refine goes_ Tryz.func12 (by kernel_rfl) rfl #[.agg #[.int .i64 a2_0, .int .i64 a2_1, .int .i64 a2_2]] (by rfl) rfl rfl (by (try simp only [List.map_toArray, List.map_cons, List.map_nil]); first | done | rfl | (simp only [List.length_drop, List.length_take]; rfl)) ?_
   with_reducible refine (laws_toHold.calls a2_0 a2_1 a2_2 t516 t517 t518 _ A17.out).mono ?_
   rintro e w27 ⟨rfl, hb⟩
   refine ⟨_, rfl, ?_⟩
   replace HO512 := Aside0.mk (Kd.S_below (Xq HO512) hb)
   replace HO515 := Aside0.mk (Kd.R_below (Xq HO515) hb)
   replace BK504 := Xbb BK504 hb
   replace BK505 := Xbb BK505 hb
   replace HB := Aside0.mk (below_step Xi hb)
   (try clear hb)
   (try clear hb2)
   (try clear hk)
   (try clear hi)
   obtain ⟨Ao28, co28, eo28⟩ := Kd.S_slice HO512.out
   (first | subst eo28 | (injection eo28 with f1_ f2_ f3_; have f4_ := f1_.symm; have f5_ := f3_.symm; clear f1_ f2_ f3_; subst f4_; subst f5_))
   obtain ⟨Ao29, co29, eo29⟩ := Kd.R_slice HO515.out
   (first | subst eo29 | (injection eo29 with f1_ f2_ f3_; have f4_ := f1_.symm; have f5_ := f3_.symm; clear f1_ f2_ f3_; subst f4_; subst f5_))
   refine hK.out _ _ ⟨(blk_cell BK504.out 0).trans rfl, (blk_cell BK504.out 1).trans rfl, (blk_cell BK504.out 2).trans rfl, (blk_cell BK505.out 0).trans rfl, (blk_cell BK505.out 1).trans rfl, (blk_cell BK505.out 2).trans rfl⟩ (fun hHeld => ?_)
   clear hK K
   refine Xno ?_
   refine one_ (i := 6) (N := some 36) (XW.bs 12 127) rfl rfl (one_of HT_.out (by kernel_rfl)) (by decide) (fun K hK => ?_)
   refine goes_ Tryz.func9 (by kernel_rfl) rfl #[.agg #[.int .i64 t508, .int .i64 t509, .slice Ao28 t510.length co28], .slice Ao29 t513.length co29, .agg #[.int .i64 t516, .int .i64 t517, .int .i64 t518]] (by rfl) rfl rfl (by (try simp only [List.map_toArray, List.map_cons, List.map_nil]); first | done | rfl | (simp only [List.length_drop, List.length_take]; rfl)) ?_
   with_reducible refine (spec_ConflictsOf.calls k t508 t509 _ _ t510 _ _ t513 t516 t517 t518 t519 t522 _ ?side1 ?side2 ?side3 ?side4 A18.out).mono ?_
   (case side1 => repeat (first | exact (Kd.S_reads' HO512.out).2.2 | (with_reducible first | refine Kd.C_alloc ?_ _ | refine Kd.C_drewN ?_ _ | refine Kd.C_drew ?_)))
   (case side2 => exact (Kd.S_reads' HO512.out).2.1)
   (case side3 => repeat (first | exact (Kd.R_reads' HO515.out).2.2 | (with_reducible first | refine Kd.C_alloc ?_ _ | refine Kd.C_drewN ?_ _ | refine Kd.C_drew ?_)))
   (case side4 => exact (Kd.R_reads' HO515.out).2.1)
   rintro e w30 ⟨v520, rfl, ho0, hb⟩
   refine ⟨_, rfl, ?_⟩
   replace HO512 := Aside0.mk (Kd.S_elder' (Xq HO512) (Kd.R_base ho0) hb)
   replace HO515 := Aside0.mk (Kd.R_below (Xq HO515) hb)
   have HO521 := Aside0.mk (Kd.R_lower ho0 (below_size Xi))
   replace BK504 := Xbb BK504 hb
   replace BK505 := Xbb BK505 hb
   replace HB := Aside0.mk (below_step Xi hb)
   (try clear hb)
   (try clear hb2)
   (try clear hk)
   (try clear hi)
   (try clear ho0)
   refine hK.out _ _ ⟨(blk_cell BK504.out 0).trans rfl, (blk_cell BK504.out 1).trans rfl, (blk_cell BK504.out 2).trans rfl, (blk_cell BK505.out 0).trans rfl, (blk_cell BK505.out 1).trans rfl, (blk_cell BK505.out 2).trans rfl⟩ (fun hHeld => ?_)
   clear hK K
   refine Xno ?_
   refine Xpu 7 29 (XW.bs 12 255) HT_.out ?_
   refine Xpu 8 37 (XW.bs 12 511) HT_.out ?_
   refine Xpu 9 38 (XW.bs 12 1023) HT_.out ?_
   refine Xpu 10 8 (XW.bs 12 2047) HT_.out ?_
   refine Xpu 11 9 (XW.bs 12 4095) HT_.out ?_
   refine done_ (done_of HT_.out (by kernel_rfl)) ?_
   have hnb31 := NB504_505.out
   have hnc31 := NB505_504.out
   obtain ⟨hcz32_0, hcz32_1, hcz32_2⟩ := Xc3 BK504
   obtain ⟨hfz32_0, hfz32_1, hfz32_2⟩ := Xf3 BK504
   try go_wp2_with (first | ((with_reducible refine gate_callee (f := 10) rfl ?_); refine Xgo 40 Tryz.func10 #[.agg #[.int .i64 a0_0, .int .i64 a0_1, .slice A0_2 l0_2.length c0_2]] ?_; (with_reducible refine (laws_toDoc.calls k a0_0 a0_1 _ _ l0_2 t523 t524 t525 _ ?side1 ?side2 A19.out).mono ?_); (case side1 => exact Xc HR0_2); (case side2 => exact HC0_2.out); rintro e w33 ⟨v526, rfl, ho0, hb⟩; refine ⟨_, rfl, ?_⟩; replace HO515 := Aside0.mk (Kd.R_below (Xq HO515) hb); have HO527 := Aside0.mk (Kd.S_lower (Kd.S_new' (Kd.S_new' ho0 (Kd.S_lt (Xq HO512))) (Kd.R_lt (Xq HO521))) (below_size Xi)); replace HO512 := Aside0.mk (Kd.S_elder' (Xq HO512) (Kd.S_base ho0) hb); replace HO521 := Aside0.mk (Kd.R_below (Xq HO521) hb); replace BK504 := Xbb BK504 hb; replace BK505 := Xbb BK505 hb; replace HB := Aside0.mk (below_step Xi hb); clear hb; (try clear ho0)) | ((with_reducible refine gate_dst (N := 10) rfl ?_); refine Xbox 10 #[.int .i64 0, .int .i64 0, .slice none 0 0] 35 ?_; intro gb528 hg w34 hbox hb; replace HO512 := Aside0.mk (Kd.S_below (Xq HO512) hb); replace HO515 := Aside0.mk (Kd.R_below (Xq HO515) hb); replace HO521 := Aside0.mk (Kd.R_below (Xq HO521) hb); replace HO527 := Aside0.mk (Kd.S_below (Xq HO527) hb); have BK528 := Aside0.mk (hbox); have GE528 := Xge hg Xi; replace HB := Aside0.mk (below_step Xi hb); have NB504_528 := Xnb hg BK504; have NB528_504 := Xns NB504_528; replace BK504 := Xbb BK504 hb; have NB505_528 := Xnb hg BK505; have NB528_505 := Xns NB505_528; replace BK505 := Xbb BK505 hb; clear hb hbox hg; have hnb35 := NB528_504.out; have hnc35 := NB504_528.out; have hnb36 := NB528_505.out; have hnc36 := NB505_528.out; obtain ⟨hcz37_0, hcz37_1, hcz37_2⟩ := Xc3 BK528; obtain ⟨hfz37_0, hfz37_1, hfz37_2⟩ := Xf3 BK528; obtain ⟨Ao38, co38, eo38⟩ := Kd.S_slice HO527.out; subst eo38) | ((with_reducible refine gate_store (t := 35) (p := 10) rfl ?_); refine store_event (t := 35) (p := 10) (v := ?vo_w39) (w1 := (((w34.setCell ⟨gb528, 0, none⟩ (.int .i64 t523)).setCell ⟨gb528, 1, none⟩ (.int .i64 t524)).setCell ⟨gb528, 2, none⟩ (.slice Ao38 t525.length co38))) ?hg ?ho ?hn ?hr ?_; (case ho => rfl); (case hg => rfl); (case hn => rfl); (case hr => first | (go_simp; done) | (go_simp; rfl)); intro w39 hw; have n0_ : Aside0 (Kd.S k113 113 w39 w.heap.size (fun k_ => some k_ ≠ (v520 : Value).ownBlock ∧ some k_ ≠ (.slice Ao38 t525.length co38 : Value).ownBlock) (.slice Ao28 t510.length co28) t510) := ⟨(by rw [hw]; exact (by (with_reducible repeat (first | apply Kd.S_alloc | apply Kd.S_drewN | apply Kd.S_drew)); exact Kd.S_mono (Kd.S_far (p := ⟨gb528, 2, none⟩) (Kd.S_far (p := ⟨gb528, 1, none⟩) (Kd.S_far (p := ⟨gb528, 0, none⟩) (Kd.S_types HO512.out BK528.out (by decide)) (fun _ hk => hk.2) (.int .i64 t523)) (fun _ hk => hk.2) (.int .i64 t524)) (fun _ hk => hk.2) (.slice Ao38 t525.length co38)) (fun _ hk => ⟨hk.1.1.2, hk.1.2⟩)))⟩; have n1_ : Aside0 (Kd.R k39 39 w39 w.heap.size (fun _ => True) (.slice Ao29 t513.length co29) t513) := ⟨(by rw [hw]; exact (by (with_reducible repeat (first | apply Kd.R_alloc | apply Kd.R_drewN | apply Kd.R_drew)); exact Kd.R_mono (Kd.R_far (p := ⟨gb528, 2, none⟩) (Kd.R_far (p := ⟨gb528, 1, none⟩) (Kd.R_far (p := ⟨gb528, 0, none⟩) (Kd.R_types HO515.out BK528.out (by decide)) (fun _ hk => hk.2) (.int .i64 t523)) (fun _ hk => hk.2) (.int .i64 t524)) (fun _ hk => hk.2) (.slice Ao38 t525.length co38)) (fun _ hk => trivial)))⟩; have n2_ : Aside0 (Kd.R (Kd.int .i64) 3 w39 w.heap.size (fun _ => True) v520 t519) := ⟨(by rw [hw]; exact (by (with_reducible repeat (first | apply Kd.R_alloc | apply Kd.R_drewN | apply Kd.R_drew)); exact Kd.R_mono (Kd.R_far (p := ⟨gb528, 2, none⟩) (Kd.R_far (p := ⟨gb528, 1, none⟩) (Kd.R_far (p := ⟨gb528, 0, none⟩) (Kd.R_types HO521.out BK528.out (by decide)) (fun _ hk => hk.2) (.int .i64 t523)) (fun _ hk => hk.2) (.int .i64 t524)) (fun _ hk => hk.2) (.slice Ao38 t525.length co38)) (fun _ hk => trivial)))⟩; have n3_ : Aside0 (Kd.S k113 113 w39 w.heap.size (fun k_ => some k_ ≠ (.slice Ao28 t510.length co28 : Value).ownBlock ∧ some k_ ≠ (v520 : Value).ownBlock) (.slice Ao38 t525.length co38) t525) := ⟨(by rw [hw]; exact (by (with_reducible repeat (first | apply Kd.S_alloc | apply Kd.S_drewN | apply Kd.S_drew)); exact Kd.S_mono (Kd.S_far (p := ⟨gb528, 2, none⟩) (Kd.S_far (p := ⟨gb528, 1, none⟩) (Kd.S_far (p := ⟨gb528, 0, none⟩) (Kd.S_types HO527.out BK528.out (by decide)) (fun _ hk => hk.2) (.int .i64 t523)) (fun _ hk => hk.2) (.int .i64 t524)) (fun _ hk => hk.2) (.slice Ao38 t525.length co38)) (fun _ hk => ⟨hk.1.1.2, hk.1.2⟩)))⟩; have n4_ : Aside0 (w39.heap[gb504]? = some (.cells #[.int .i64 a0_0, .int .i64 a0_1, .slice A0_2 l0_2.length c0_2] 24 (0, 0))) := ⟨(by rw [hw]; exact (by (with_reducible repeat (first | refine blk_drewN ?_ _ | refine blk_drew ?_ | refine blk_alloc ?_ _)); refine blk_far ?_ NB504_528.out _; (with_reducible repeat (first | refine blk_drewN ?_ _ | refine blk_drew ?_ | refine blk_alloc ?_ _)); refine blk_far ?_ NB504_528.out _; (with_reducible repeat (first | refine blk_drewN ?_ _ | refine blk_drew ?_ | refine blk_alloc ?_ _)); refine blk_far ?_ NB504_528.out _; (with_reducible repeat (first | refine blk_drewN ?_ _ | refine blk_drew ?_ | refine blk_alloc ?_ _)); exact BK504.out))⟩; have n5_ : Aside0 (w39.heap[gb505]? = some (.cells #[.int .i64 a2_0, .int .i64 a2_1, .int .i64 a2_2] 27 (0, 0))) := ⟨(by rw [hw]; exact (by (with_reducible repeat (first | refine blk_drewN ?_ _ | refine blk_drew ?_ | refine blk_alloc ?_ _)); refine blk_far ?_ NB505_528.out _; (with_reducible repeat (first | refine blk_drewN ?_ _ | refine blk_drew ?_ | refine blk_alloc ?_ _)); refine blk_far ?_ NB505_528.out _; (with_reducible repeat (first | refine blk_drewN ?_ _ | refine blk_drew ?_ | refine blk_alloc ?_ _)); refine blk_far ?_ NB505_528.out _; (with_reducible repeat (first | refine blk_drewN ?_ _ | refine blk_drew ?_ | refine blk_alloc ?_ _)); exact BK505.out))⟩; have n6_ : Aside0 (w39.heap[gb528]? = some (.cells #[.int .i64 t523, .int .i64 t524, .slice Ao38 t525.length co38] 35 (0, 0))) := ⟨(by rw [hw]; exact (by (with_reducible repeat (first | refine blk_drewN ?_ _ | refine blk_drew ?_ | refine blk_alloc ?_ _)); refine blk_put (cs := #[.int .i64 t523, .int .i64 t524, .slice none 0 0]) ?_ 2 _ rfl; (with_reducible repeat (first | refine blk_drewN ?_ _ | refine blk_drew ?_ | refine blk_alloc ?_ _)); refine blk_put (cs := #[.int .i64 t523, .int .i64 0, .slice none 0 0]) ?_ 1 _ rfl; (with_reducible repeat (first | refine blk_drewN ?_ _ | refine blk_drew ?_ | refine blk_alloc ?_ _)); refine blk_put (cs := #[.int .i64 0, .int .i64 0, .slice none 0 0]) ?_ 0 _ rfl; (with_reducible repeat (first | refine blk_drewN ?_ _ | refine blk_drew ?_ | refine blk_alloc ?_ _)); exact BK528.out))⟩; have n7_ : Aside0 (Below w.heap.size w w39) := ⟨(by rw [hw]; exact Xi)⟩; clear hw; clear HO512; clear HO515; clear HO521; clear HO527; clear BK504; clear BK505; clear BK528; clear HB; have HO512 := n0_; have HO515 := n1_; have HO521 := n2_; have HO527 := n3_; have BK504 := n4_; have BK505 := n5_; have BK528 := n6_; have HB := n7_; clear n0_ n1_ n2_ n3_ n4_ n5_ n6_ n7_) | ((with_reducible refine gate_callee (f := 11) rfl ?_); refine Xgo 42 Tryz.func11 #[.slice A1 l1.length c1] ?_; (with_reducible refine (laws_toHoldS.calls k _ _ l1 t529 _ ?side1 ?side2 A20.out).mono ?_); (case side1 => exact Xc HR1); (case side2 => exact HC1.out); rintro e w40 ⟨v530, rfl, ho0, hb⟩; refine ⟨_, rfl, ?_⟩; replace HO512 := Aside0.mk (Kd.S_below (Xq HO512) hb); replace HO521 := Aside0.mk (Kd.R_below (Xq HO521) hb); replace HO527 := Aside0.mk (Kd.S_below (Xq HO527) hb); have HO531 := Aside0.mk (Kd.R_lower (Kd.R_new' ho0 (Kd.R_lt (Xq HO515))) (below_size Xi)); replace HO515 := Aside0.mk (Kd.R_elder' (Xq HO515) (Kd.R_base ho0) hb); replace BK504 := Xbb BK504 hb; replace BK505 := Xbb BK505 hb; replace BK528 := Xbb BK528 hb; replace HB := Aside0.mk (below_step Xi hb); clear hb; (try clear ho0)))
   replace HO512 := Aside0.mk (Kd.S_drew HO512.out)
   replace HO515 := Aside0.mk (Kd.R_drew HO515.out)
   replace HO521 := Aside0.mk (Kd.R_drew HO521.out)
   replace HO527 := Aside0.mk (Kd.S_drew HO527.out)
   replace HO531 := Aside0.mk (Kd.R_drew HO531.out)
   replace BK504 := Aside0.mk (blk_drew BK504.out)
   replace BK505 := Aside0.mk (blk_drew BK505.out)
   replace BK528 := Aside0.mk (blk_drew BK528.out)
   replace HB := Aside0.mk (below_drew1 HB.out)
   refine start_ (n := 10) (S := fun w' => w'.cell? ⟨gb528, 0, none⟩ = some (.int .i64 t523) ∧ w'.cell? ⟨gb528, 1, none⟩ = some (.int .i64 t524) ∧ w'.cell? ⟨gb528, 2, none⟩ = some (.slice Ao38 t525.length co38) ∧ w'.cell? ⟨gb505, 0, none⟩ = some (.int .i64 a2_0) ∧ w'.cell? ⟨gb505, 1, none⟩ = some (.int .i64 a2_1) ∧ w'.cell? ⟨gb505, 2, none⟩ = some (.int .i64 a2_2)) (ds := []) #[false, false, false, false, false, false, false, false, false, false] (by kernel_rfl) rfl rfl ⟨(blk_cell BK528.out 0).trans rfl, (blk_cell BK528.out 1).trans rfl, (blk_cell BK528.out 2).trans rfl, (blk_cell BK505.out 0).trans rfl, (blk_cell BK505.out 1).trans rfl, (blk_cell BK505.out 2).trans rfl⟩ (fun hHeld => ?_); refine with_tabW laws_FnExactConflictsOf.tab11 laws_FnExactConflictsOf.bits11 (fun HT_ HW_ => ?_)
   generalize w40.drew = w41 at HO512 HO515 HO521 HO527 HO531 BK504 BK505 BK528 HB hHeld ⊢
   refine Xpu 1 45 (XW.bs 10 2) HT_.out ?_
   refine Xta 0 44 (XW.bs 10 3) HT_.out HW_.out hHeld ?_
   refine Xta 2 46 (XW.bs 10 7) HT_.out HW_.out hHeld ?_
   refine one_ (i := 3) (N := some 47) (XW.bs 10 15) rfl rfl (one_of HT_.out (by kernel_rfl)) (by decide) (fun K hK => ?_)
   refine goes_ Tryz.func12 (by kernel_rfl) rfl #[.agg #[.int .i64 a2_0, .int .i64 a2_1, .int .i64 a2_2]] (by rfl) rfl rfl (by (try simp only [List.map_toArray, List.map_cons, List.map_nil]); first | done | rfl | (simp only [List.length_drop, List.length_take]; rfl)) ?_
   with_reducible refine (laws_toHold.calls a2_0 a2_1 a2_2 t532 t533 t534 _ A21.out).mono ?_
   rintro e w42 ⟨rfl, hb⟩
   refine ⟨_, rfl, ?_⟩
   replace HO512 := Aside0.mk (Kd.S_below (Xq HO512) hb)
   replace HO515 := Aside0.mk (Kd.R_below (Xq HO515) hb)
   replace HO521 := Aside0.mk (Kd.R_below (Xq HO521) hb)
   replace HO527 := Aside0.mk (Kd.S_below (Xq HO527) hb)
   replace HO531 := Aside0.mk (Kd.R_below (Xq HO531) hb)
   replace BK504 := Xbb BK504 hb
   replace BK505 := Xbb BK505 hb
   replace BK528 := Xbb BK528 hb
   replace HB := Aside0.mk (below_step Xi hb)
   (try clear hb)
   (try clear hb2)
   (try clear hk)
   (try clear hi)
   obtain ⟨Ao43, co43, eo43⟩ := Kd.R_slice HO531.out
   (first | subst eo43 | (injection eo43 with f1_ f2_ f3_; have f4_ := f1_.symm; have f5_ := f3_.symm; clear f1_ f2_ f3_; subst f4_; subst f5_))
   refine hK.out _ _ ⟨(blk_cell BK528.out 0).trans rfl, (blk_cell BK528.out 1).trans rfl, (blk_cell BK528.out 2).trans rfl, (blk_cell BK505.out 0).trans rfl, (blk_cell BK505.out 1).trans rfl, (blk_cell BK505.out 2).trans rfl⟩ (fun hHeld => ?_)
   clear hK K
   refine Xno ?_
   refine one_ (i := 4) (N := some 48) (XW.bs 10 31) rfl rfl (one_of HT_.out (by kernel_rfl)) (by decide) (fun K hK => ?_)
   refine goes_ Tryz.func13 (by kernel_rfl) rfl #[.agg #[.int .i64 t523, .int .i64 t524, .slice Ao38 t525.length co38], .slice Ao43 t529.length co43, .agg #[.int .i64 t532, .int .i64 t533, .int .i64 t534]] (by rfl) rfl rfl (by (try simp only [List.map_toArray, List.map_cons, List.map_nil]); first | done | rfl | (simp only [List.length_drop, List.length_take]; rfl)) ?_
   with_reducible refine (impl_ConflictsOf.calls k t523 t524 _ _ t525 _ _ t529 t532 t533 t534 t535 t538 _ ?side1 ?side2 ?side3 ?side4 A22.out).mono ?_
   (case side1 => repeat (first | exact (Kd.S_reads' HO527.out).2.2 | (with_reducible first | refine Kd.C_alloc ?_ _ | refine Kd.C_drewN ?_ _ | refine Kd.C_drew ?_)))
   (case side2 => exact (Kd.S_reads' HO527.out).2.1)
   (case side3 => repeat (first | exact (Kd.R_reads' HO531.out).2.2 | (with_reducible first | refine Kd.C_alloc ?_ _ | refine Kd.C_drewN ?_ _ | refine Kd.C_drew ?_)))
   (case side4 => exact (Kd.R_reads' HO531.out).2.1)
   rintro e w44 ⟨v536, rfl, ho0, hb⟩
   refine ⟨_, rfl, ?_⟩
   replace HO512 := Aside0.mk (Kd.S_elder' (Xq HO512) (Kd.R_base ho0) hb)
   replace HO515 := Aside0.mk (Kd.R_below (Xq HO515) hb)
   replace HO527 := Aside0.mk (Kd.S_elder' (Xq HO527) (Kd.R_base ho0) hb)
   replace HO531 := Aside0.mk (Kd.R_below (Xq HO531) hb)
   have HO537 := Aside0.mk (Kd.R_lower (Kd.R_new' ho0 (Kd.R_lt (Xq HO521))) (below_size Xi))
   replace HO521 := Aside0.mk (Kd.R_elder' (Xq HO521) (Kd.R_base ho0) hb)
   replace BK504 := Xbb BK504 hb
   replace BK505 := Xbb BK505 hb
   replace BK528 := Xbb BK528 hb
   replace HB := Aside0.mk (below_step Xi hb)
   (try clear hb)
   (try clear hb2)
   (try clear hk)
   (try clear hi)
   (try clear ho0)
   refine hK.out _ _ ⟨(blk_cell BK528.out 0).trans rfl, (blk_cell BK528.out 1).trans rfl, (blk_cell BK528.out 2).trans rfl, (blk_cell BK505.out 0).trans rfl, (blk_cell BK505.out 1).trans rfl, (blk_cell BK505.out 2).trans rfl⟩ (fun hHeld => ?_)
   clear hK K
   refine Xno ?_
   refine Xpu 5 43 (XW.bs 10 63) HT_.out ?_
   refine Xpu 6 49 (XW.bs 10 127) HT_.out ?_
   refine Xpu 7 50 (XW.bs 10 255) HT_.out ?_
   refine Xpu 8 12 (XW.bs 10 511) HT_.out ?_
   refine Xpu 9 13 (XW.bs 10 1023) HT_.out ?_
   refine done_ (done_of HT_.out (by kernel_rfl)) ?_
   go_upto_region 12 with (fail)
   go_cut [59] (fun v59 wc => ∃ (kq : Nat) (x59_22 : Bool), v59 = .bool x59_22 ∧ Aside0 (laws_FnExactConflictsOf.j0 kq l1 t519 t522 t529 t535 t538 x59_22 a0_0 a0_1 l0_2 a2_0 a2_1 a2_2 t523 t524 t525 = some true) ∧ Aside0 (kq ≤ k) ∧ Aside0 (Kd.R (Kd.int .i64) 3 wc w.heap.size (fun k_ => some k_ ≠ (v536 : Value).ownBlock) v520 t519) ∧ Aside0 (Kd.R k39 39 wc w.heap.size (fun _ => True) (.slice Ao43 t529.length co43) t529) ∧ Aside0 (Kd.R (Kd.int .i64) 3 wc w.heap.size (fun k_ => some k_ ≠ (v520 : Value).ownBlock) v536 t535) ∧ Aside0 (Kd.S k113 113 wc w.heap.size (fun k_ => some k_ ≠ (v520 : Value).ownBlock ∧ some k_ ≠ (v536 : Value).ownBlock) (.slice Ao38 t525.length co38) t525) ∧ Aside0 (wc.heap[gb504]? = some (.cells #[.int .i64 a0_0, .int .i64 a0_1, (.slice A0_2 l0_2.length c0_2)] 24 (0, 0))) ∧ Aside0 (wc.heap[gb505]? = some (.cells #[.int .i64 a2_0, .int .i64 a2_1, .int .i64 a2_2] 27 (0, 0))) ∧ Aside0 (wc.heap[gb528]? = some (.cells #[.int .i64 t523, .int .i64 t524, (.slice Ao38 t525.length co38)] 35 (0, 0))) ∧ Aside0 (Below w.heap.size w wc))
   case first =>
    have H := HC23.out
    clear HC23
    obtain ⟨t539, A45, H⟩ := Xbi H
    (try dsimp only at H)
    by_cases c46 : t539 = true
    ·subst c46
     (first | rw [if_pos rfl] at H | skip)
     have H' := Aside0.mk H
     clear H
     obtain ⟨Ao47, co47, eo47⟩ := Kd.R_slice HO537.out
     subst eo47
     obtain ⟨Ao48, co48, eo48⟩ := Kd.R_slice HO521.out
     subst eo48
     go_wp2_with (first | ((with_reducible refine gate_callee (f := 14) rfl ?_); refine Xgo 53 Tryz.func14 #[.slice Ao47 t535.length co47, .slice Ao48 t519.length co48] ?_; (with_reducible refine (laws_eqIntS.calls k _ _ t535 _ _ t519 true _ ?side1 ?side2 ?side3 ?side4 A45.out).mono ?_); (case side1 => repeat (first | exact (Kd.R_reads' HO537.out).2.2 | (with_reducible first | refine Kd.C_alloc ?_ _ | refine Kd.C_drewN ?_ _ | refine Kd.C_drew ?_))); (case side2 => exact (Kd.R_reads' HO537.out).2.1); (case side3 => repeat (first | exact (Kd.R_reads' HO521.out).2.2 | (with_reducible first | refine Kd.C_alloc ?_ _ | refine Kd.C_drewN ?_ _ | refine Kd.C_drew ?_))); (case side4 => exact (Kd.R_reads' HO521.out).2.1); rintro e w' ⟨rfl, ⟨nd, rfl⟩⟩; refine ⟨_, rfl, ?_⟩))
     go_meet
     case rel => exact ⟨_, ((t538 != t522)), Xr, H', Xko, ⟨by (with_reducible repeat (first | apply Kd.R_alloc | apply Kd.R_drewN | apply Kd.R_drew)); exact Kd.R_mono HO521.out (fun _ hk => hk.2)⟩, ⟨by (with_reducible repeat (first | apply Kd.R_alloc | apply Kd.R_drewN | apply Kd.R_drew)); exact Kd.R_mono HO531.out (fun _ hk => trivial)⟩, ⟨by (with_reducible repeat (first | apply Kd.R_alloc | apply Kd.R_drewN | apply Kd.R_drew)); exact Kd.R_mono HO537.out (fun _ hk => hk.2)⟩, ⟨by (with_reducible repeat (first | apply Kd.S_alloc | apply Kd.S_drewN | apply Kd.S_drew)); exact Kd.S_mono HO527.out (fun _ hk => ⟨hk.1.2, hk.2⟩)⟩, BK504, BK505, BK528, ⟨Xi⟩⟩
    ·replace c46 := Bool.eq_false_iff.mpr c46
     subst c46
     (first | rw [if_neg (show ¬ (false = true) by decide)] at H | skip)
     have H' := Aside0.mk H
     clear H
     obtain ⟨Ao49, co49, eo49⟩ := Kd.R_slice HO537.out
     subst eo49
     obtain ⟨Ao50, co50, eo50⟩ := Kd.R_slice HO521.out
     subst eo50
     go_wp2_with (first | ((with_reducible refine gate_callee (f := 14) rfl ?_); refine Xgo 53 Tryz.func14 #[.slice Ao49 t535.length co49, .slice Ao50 t519.length co50] ?_; (with_reducible refine (laws_eqIntS.calls k _ _ t535 _ _ t519 false _ ?side1 ?side2 ?side3 ?side4 A45.out).mono ?_); (case side1 => repeat (first | exact (Kd.R_reads' HO537.out).2.2 | (with_reducible first | refine Kd.C_alloc ?_ _ | refine Kd.C_drewN ?_ _ | refine Kd.C_drew ?_))); (case side2 => exact (Kd.R_reads' HO537.out).2.1); (case side3 => repeat (first | exact (Kd.R_reads' HO521.out).2.2 | (with_reducible first | refine Kd.C_alloc ?_ _ | refine Kd.C_drewN ?_ _ | refine Kd.C_drew ?_))); (case side4 => exact (Kd.R_reads' HO521.out).2.1); rintro e w' ⟨rfl, ⟨nd, rfl⟩⟩; refine ⟨_, rfl, ?_⟩))
     go_meet
     case rel => exact ⟨_, (true), Xr, H', Xko, ⟨by (with_reducible repeat (first | apply Kd.R_alloc | apply Kd.R_drewN | apply Kd.R_drew)); exact Kd.R_mono HO521.out (fun _ hk => hk.2)⟩, ⟨by (with_reducible repeat (first | apply Kd.R_alloc | apply Kd.R_drewN | apply Kd.R_drew)); exact Kd.R_mono HO531.out (fun _ hk => trivial)⟩, ⟨by (with_reducible repeat (first | apply Kd.R_alloc | apply Kd.R_drewN | apply Kd.R_drew)); exact Kd.R_mono HO537.out (fun _ hk => hk.2)⟩, ⟨by (with_reducible repeat (first | apply Kd.S_alloc | apply Kd.S_drewN | apply Kd.S_drew)); exact Kd.S_mono HO527.out (fun _ hk => ⟨hk.1.2, hk.2⟩)⟩, BK504, BK505, BK528, ⟨Xi⟩⟩
   case rest =>
    clear HC23
    (try clear c1); (try clear c11); (try clear c11b0); (try clear c14); (try clear c14b0); (try clear hcz32_0); (try clear hcz32_1); (try clear hcz32_2); (try clear hcz37_0); (try clear hcz37_1); (try clear hcz37_2); (try clear hcz9_0); (try clear hcz9_1); (try clear hcz9_2); (try clear hfz32_0); (try clear hfz32_1); (try clear hfz32_2); (try clear hfz37_0); (try clear hfz37_1); (try clear hfz37_2); (try clear hfz9_0); (try clear hfz9_1); (try clear hfz9_2)
    (try clear HO_8); (try clear HO_11); (try clear HO_12); (try clear HO_529002)
    obtain ⟨kq, x59_22, rfl, HA, HJ22, HO_8, HO_11, HO_12, HO_529002, BK504, BK505, BK528, HB⟩ := hcut
    cases kq with
    | zero => cases HA.out
    | succ kj22 =>
     have H := HA.out
     clear HA
     simp only [laws_FnExactConflictsOf.j0] at H
     by_cases c51 : x59_22 = true
     ·subst c51
      (first | rw [if_pos rfl] at H | skip)
      cases H
     ·replace c51 := Bool.eq_false_iff.mpr c51
      subst c51
      (first | rw [if_neg (show ¬ (false = true) by decide)] at H | skip)
      replace H := Option.bind_eq_some_iff.mp H
      obtain ⟨⟨t540, t541, t542⟩, A520, H⟩ := H
      (try dsimp only at H)
      have A52 := Aside0.mk A520
      clear A520
      obtain ⟨t545, A53, H⟩ := Xbi H
      (try dsimp only at H)
      have HC54 := Aside0.mk H
      clear H
      try go_wp2_with (fail)
      replace HO_8 := Aside0.mk (Kd.R_drew HO_8.out)
      replace HO_11 := Aside0.mk (Kd.R_drew HO_11.out)
      replace HO_12 := Aside0.mk (Kd.R_drew HO_12.out)
      replace HO_529002 := Aside0.mk (Kd.S_drew HO_529002.out)
      replace BK504 := Aside0.mk (blk_drew BK504.out)
      replace BK505 := Aside0.mk (blk_drew BK505.out)
      replace BK528 := Aside0.mk (blk_drew BK528.out)
      replace HB := Aside0.mk (below_drew1 HB.out)
      refine start_ (n := 5) (S := fun w' => w'.cell? ⟨gb528, 0, none⟩ = some (.int .i64 t523) ∧ w'.cell? ⟨gb528, 1, none⟩ = some (.int .i64 t524) ∧ w'.cell? ⟨gb528, 2, none⟩ = some (.slice Ao38 t525.length co38) ∧ w'.cell? ⟨gb504, 0, none⟩ = some (.int .i64 a0_0) ∧ w'.cell? ⟨gb504, 1, none⟩ = some (.int .i64 a0_1) ∧ w'.cell? ⟨gb504, 2, none⟩ = some (.slice A0_2 l0_2.length c0_2)) (ds := []) #[false, false, false, false, false] (by kernel_rfl) rfl rfl ⟨(blk_cell BK528.out 0).trans rfl, (blk_cell BK528.out 1).trans rfl, (blk_cell BK528.out 2).trans rfl, (blk_cell BK504.out 0).trans rfl, (blk_cell BK504.out 1).trans rfl, (blk_cell BK504.out 2).trans rfl⟩ (fun hHeld => ?_)
      generalize wc.drew = w55 at HO_8 HO_11 HO_12 HO_529002 BK504 BK505 BK528 HB hHeld ⊢
      refine take_ (i := 0) (N := some 60) (v := ?_) (a' := ?_) #[true, false, false, false, false] rfl rfl (by kernel_rfl) (fun _ _ _ h => h) (Or.inl ⟨by rfl, ?_⟩) hHeld ?_ ?_
      rotate_left
      ·rintro w' ⟨s0, s1, s2, s3, s4, s5⟩
       go_simp
       with_reducible rfl
      rotate_left
      ·simp only [XW.q0, XW.q1, XW.q2, i64_w, i32_w]
       rfl
      refine take_ (i := 1) (N := some 61) (v := ?_) (a' := ?_) #[true, true, false, false, false] rfl rfl (by kernel_rfl) (fun _ _ _ h => h) (Or.inl ⟨by rfl, ?_⟩) hHeld ?_ ?_
      rotate_left
      ·rintro w' ⟨s0, s1, s2, s3, s4, s5⟩
       go_simp
       with_reducible rfl
      rotate_left
      ·simp only [XW.q0, XW.q1, XW.q2, i64_w, i32_w]
       rfl
      refine one_ (i := 2) (N := some 62) #[true, true, true, false, false] rfl rfl (by kernel_rfl) (by decide) (fun K hK => ?_)
      refine goes_ Tryz.func10 (by kernel_rfl) rfl #[.agg #[.int .i64 a0_0, .int .i64 a0_1, .slice A0_2 l0_2.length c0_2]] (by rfl) rfl rfl (by (try simp only [List.map_toArray, List.map_cons, List.map_nil]); first | done | rfl | (simp only [List.length_drop, List.length_take]; rfl)) ?_
      with_reducible refine (laws_toDoc.calls kj22 a0_0 a0_1 _ _ l0_2 t540 t541 t542 _ ?side1 ?side2 A52.out).mono ?_
      (case side1 => exact Xc HR0_2)
      (case side2 => exact HC0_2.out)
      rintro e w56 ⟨v543, rfl, ho0, hb⟩
      refine ⟨_, rfl, ?_⟩
      replace HO_11 := Aside0.mk (Kd.R_below (Xq HO_11) hb)
      have HO544 := Aside0.mk (Kd.S_lower (Kd.S_new' (Kd.S_new' (Kd.S_new' ho0 (Kd.R_lt (Xq HO_8))) (Kd.R_lt (Xq HO_12))) (Kd.S_lt (Xq HO_529002))) (below_size Xi))
      replace HO_8 := Aside0.mk (Kd.R_below (Xq HO_8) hb)
      replace HO_12 := Aside0.mk (Kd.R_below (Xq HO_12) hb)
      replace HO_529002 := Aside0.mk (Kd.S_elder' (Xq HO_529002) (Kd.S_base ho0) hb)
      replace BK504 := Xbb BK504 hb
      replace BK505 := Xbb BK505 hb
      replace BK528 := Xbb BK528 hb
      replace HB := Aside0.mk (below_step Xi hb)
      (try clear hb)
      (try clear hb2)
      (try clear hk)
      (try clear hi)
      (try clear ho0)
      obtain ⟨Ao57, co57, eo57⟩ := Kd.S_slice HO544.out
      (first | subst eo57 | (injection eo57 with f1_ f2_ f3_; have f4_ := f1_.symm; have f5_ := f3_.symm; clear f1_ f2_ f3_; subst f4_; subst f5_))
      refine hK.out _ _ ⟨(blk_cell BK528.out 0).trans rfl, (blk_cell BK528.out 1).trans rfl, (blk_cell BK528.out 2).trans rfl, (blk_cell BK504.out 0).trans rfl, (blk_cell BK504.out 1).trans rfl, (blk_cell BK504.out 2).trans rfl⟩ (fun hHeld => ?_)
      clear hK K
      refine Xno ?_
      refine one_ (i := 3) (N := some 63) #[true, true, true, true, false] rfl rfl (by kernel_rfl) (by decide) (fun K hK => ?_)
      refine goes_ Tryz.func15 (by kernel_rfl) rfl #[.agg #[.int .i64 t523, .int .i64 t524, .slice Ao38 t525.length co38], .agg #[.int .i64 t540, .int .i64 t541, .slice Ao57 t542.length co57]] (by rfl) rfl rfl (by (try simp only [List.map_toArray, List.map_cons, List.map_nil]); first | done | rfl | (simp only [List.length_drop, List.length_take]; rfl)) ?_
      with_reducible refine (laws_eqDoc.calls kj22 t523 t524 _ _ t525 t540 t541 _ _ t542 t545 _ ?side1 ?side2 ?side3 ?side4 A53.out).mono ?_
      (case side1 => repeat (first | exact (Kd.S_reads' HO_529002.out).2.2 | (with_reducible first | refine Kd.C_alloc ?_ _ | refine Kd.C_drewN ?_ _ | refine Kd.C_drew ?_)))
      (case side2 => exact (Kd.S_reads' HO_529002.out).2.1)
      (case side3 => repeat (first | exact (Kd.S_reads' HO544.out).2.2 | (with_reducible first | refine Kd.C_alloc ?_ _ | refine Kd.C_drewN ?_ _ | refine Kd.C_drew ?_)))
      (case side4 => exact (Kd.S_reads' HO544.out).2.1)
      rintro e w58 ⟨rfl, hb⟩
      refine ⟨_, rfl, ?_⟩
      replace HO_8 := Aside0.mk (Kd.R_below (Xq HO_8) hb)
      replace HO_11 := Aside0.mk (Kd.R_below (Xq HO_11) hb)
      replace HO_12 := Aside0.mk (Kd.R_below (Xq HO_12) hb)
      replace HO_529002 := Aside0.mk (Kd.S_below (Xq HO_529002) hb)
      replace HO544 := Aside0.mk (Kd.S_below (Xq HO544) hb)
      replace BK504 := Xbb BK504 hb
      replace BK505 := Xbb BK505 hb
      replace BK528 := Xbb BK528 hb
      replace HB := Aside0.mk (below_step Xi hb)
      (try clear hb)
      (try clear hb2)
      (try clear hk)
      (try clear hi)
      refine hK.out _ _ ⟨(blk_cell BK528.out 0).trans rfl, (blk_cell BK528.out 1).trans rfl, (blk_cell BK528.out 2).trans rfl, (blk_cell BK504.out 0).trans rfl, (blk_cell BK504.out 1).trans rfl, (blk_cell BK504.out 2).trans rfl⟩ (fun hHeld => ?_)
      clear hK K
      refine Xno ?_
      refine pure_ (i := 4) (N := some 64) (v := ?_) (a' := ?_) #[true, true, true, true, true] rfl rfl (by kernel_rfl) (fun _ _ _ h => h) (Or.inl ⟨by rfl, ?_⟩) ?_ ?_
      rotate_left
      ·intro w'
       go_simp
       with_reducible rfl
      rotate_left
      ·simp only [XW.q0, XW.q1, XW.q2, i64_w, i32_w]
       rfl
      refine done_ (by kernel_rfl) ?_
      go_upto_if 64 with (fail)
      have H := HC54.out
      clear HC54
      by_cases c59 : t545 = true
      ·subst c59
       (first | rw [if_pos rfl] at H | skip)
       obtain ⟨t546, A60, H⟩ := Xbi H
       (try dsimp only at H)
       obtain ⟨t549, A61, H⟩ := Xbi H
       (try dsimp only at H)
       have HC62 := Aside0.mk H
       clear H
       go_upto_if 69 with (first | ((with_reducible refine gate_callee (f := 11) rfl ?_); refine Xgo 67 Tryz.func11 #[.slice A1 l1.length c1] ?_; (with_reducible refine (laws_toHoldS.calls kj22 _ _ l1 t546 _ ?side1 ?side2 A60.out).mono ?_); (case side1 => exact Xc HR1); (case side2 => exact HC1.out); rintro e w63 ⟨v547, rfl, ho0, hb⟩; refine ⟨_, rfl, ?_⟩; replace HO_8 := Aside0.mk (Kd.R_below (Xq HO_8) hb); replace HO_12 := Aside0.mk (Kd.R_below (Xq HO_12) hb); replace HO_529002 := Aside0.mk (Kd.S_below (Xq HO_529002) hb); replace HO544 := Aside0.mk (Kd.S_below (Xq HO544) hb); have HO548 := Aside0.mk (Kd.R_lower (Kd.R_new' ho0 (Kd.R_lt (Xq HO_11))) (below_size Xi)); replace HO_11 := Aside0.mk (Kd.R_elder' (Xq HO_11) (Kd.R_base ho0) hb); replace BK504 := Xbb BK504 hb; replace BK505 := Xbb BK505 hb; replace BK528 := Xbb BK528 hb; replace HB := Aside0.mk (below_step Xi hb); clear hb; (try clear ho0); obtain ⟨Ao64, co64, eo64⟩ := Kd.R_slice HO548.out; subst eo64) | ((with_reducible refine gate_callee (f := 16) rfl ?_); refine Xgo 68 Tryz.func16 #[.slice Ao43 t529.length co43, .slice Ao64 t546.length co64] ?_; (with_reducible refine (laws_eqHoldS.calls kj22 _ _ t529 _ _ t546 t549 _ ?side1 ?side2 ?side3 ?side4 A61.out).mono ?_); (case side1 => repeat (first | exact (Kd.R_reads' HO_11.out).2.2 | (with_reducible first | refine Kd.C_alloc ?_ _ | refine Kd.C_drewN ?_ _ | refine Kd.C_drew ?_))); (case side2 => exact (Kd.R_reads' HO_11.out).2.1); (case side3 => repeat (first | exact (Kd.R_reads' HO548.out).2.2 | (with_reducible first | refine Kd.C_alloc ?_ _ | refine Kd.C_drewN ?_ _ | refine Kd.C_drew ?_))); (case side4 => exact (Kd.R_reads' HO548.out).2.1); rintro e w65 ⟨rfl, hb⟩; refine ⟨_, rfl, ?_⟩; replace HO_8 := Aside0.mk (Kd.R_below (Xq HO_8) hb); replace HO_11 := Aside0.mk (Kd.R_below (Xq HO_11) hb); replace HO_12 := Aside0.mk (Kd.R_below (Xq HO_12) hb); replace HO_529002 := Aside0.mk (Kd.S_below (Xq HO_529002) hb); replace HO544 := Aside0.mk (Kd.S_below (Xq HO544) hb); replace HO548 := Aside0.mk (Kd.R_below (Xq HO548) hb); replace BK504 := Xbb BK504 hb; replace BK505 := Xbb BK505 hb; replace BK528 := Xbb BK528 hb; replace HB := Aside0.mk (below_step Xi hb); clear hb))
       have H := HC62.out
       clear HC62
       by_cases c66 : t549 = true
       ·subst c66
        (first | rw [if_pos rfl] at H | skip)
        replace H := Option.bind_eq_some_iff.mp H
        obtain ⟨⟨t550, t551⟩, A670, H⟩ := H
        (try dsimp only at H)
        have A67 := Aside0.mk A670
        clear A670
        replace H := Option.bind_eq_some_iff.mp H
        obtain ⟨⟨t552, t553⟩, A680, H⟩ := H
        (try dsimp only at H)
        have A68 := Aside0.mk A680
        clear A680
        have HC69 := Aside0.mk H
        clear H
        have hnb70 := NB528_504.out
        have hnc70 := NB504_528.out
        have hnb71 := NB528_505.out
        have hnc71 := NB505_528.out
        obtain ⟨hcz72_0, hcz72_1, hcz72_2⟩ := Xc3 BK528
        obtain ⟨hfz72_0, hfz72_1, hfz72_2⟩ := Xf3 BK528
        go_upto_region 21 with (first | ((with_reducible refine gate_callee (f := 17) rfl ?_); refine Xgo 72 Tryz.func17 #[.agg #[.int .i64 t523, .int .i64 t524, .slice Ao38 t525.length co38], .int .i64 1] ?_; (with_reducible refine (laws_markDoc.calls kj22 t523 t524 (fun k_ => (((((((some k_ ≠ (v520 : Value).ownBlock ∧ some k_ ≠ (v536 : Value).ownBlock) ∧ some k_ ≠ (.slice Ao57 t542.length co57 : Value).ownBlock) ∧ k_ ≠ gb504) ∧ k_ ≠ gb505) ∧ k_ ≠ gb528) ∧ some k_ ≠ (.slice Ao43 t529.length co43 : Value).ownBlock) ∧ some k_ ≠ (.slice Ao64 t546.length co64 : Value).ownBlock)) (.slice Ao38 t525.length co38) t525 1 t550 t551 w _ ?side1 ?side2 A67.out).mono ?_); (case side1 => exact Xi); (case side2 => (with_reducible repeat (first | apply Kd.S_alloc | apply Kd.S_drewN | apply Kd.S_drew)); exact (Kd.S_apart' (Kd.S_apart' (Kd.S_types (Kd.S_types (Kd.S_types HO_529002.out BK504.out (by decide)) BK505.out (by decide)) BK528.out (by decide)) (Kd.R_typed HO_11.out) (by decide)) (Kd.R_typed HO548.out) (by decide))); rintro e w73 ⟨rfl, hy0, hb, hkp⟩; refine ⟨_, rfl, ?_⟩; replace HO_8 := Aside0.mk (Kd.R_mono (ok' := fun k_ => some k_ ≠ (v536 : Value).ownBlock) (XR.R_keptT rfl HO_8.out hkp (fun k_ hk_ hs_ => (hs_.1.1.1.1.1.1.1) hk_.1)) (fun k_ hk_ => hk_.1)); replace HO_11 := Aside0.mk (Kd.R_mono (ok' := fun k_ => some k_ ≠ (.slice Ao64 t546.length co64 : Value).ownBlock) (XR.R_keptT rfl HO_11.out hkp (fun k_ hk_ hs_ => (hs_.1.2) hk_.1)) (fun k_ hk_ => hk_.1.2)); replace HO_12 := Aside0.mk (Kd.R_mono (ok' := fun k_ => some k_ ≠ (v520 : Value).ownBlock) (XR.R_keptT rfl HO_12.out hkp (fun k_ hk_ hs_ => (hs_.1.1.1.1.1.1.2) hk_.1)) (fun k_ hk_ => hk_.1)); replace HO_529002 := Aside0.mk (hy0); replace BK504 := Aside0.mk (blk_kept BK504.out hkp (fun hs_ => (hs_.1.1.1.1.2) rfl)); replace BK505 := Aside0.mk (blk_kept BK505.out hkp (fun hs_ => (hs_.1.1.1.2) rfl)); replace BK528 := Aside0.mk (blk_kept BK528.out hkp (fun hs_ => (hs_.1.1.2) rfl)); replace HO548 := Aside0.mk (Kd.R_mono (ok' := fun k_ => some k_ ≠ (.slice Ao43 t529.length co43 : Value).ownBlock) (XR.R_keptT rfl HO548.out hkp (fun k_ hk_ hs_ => (hs_.2) hk_.1)) (fun k_ hk_ => hk_.1.2)); replace HB := Aside0.mk (hb); clear HO544; (try clear hb); (try clear hkp); (try clear hy0)) | ((with_reducible refine gate_callee (f := 18) rfl ?_); refine Xgo 75 Tryz.func18 #[.slice Ao43 t529.length co43, .int .i64 t550] ?_; (with_reducible refine (laws_markHoldS.calls kj22 (fun k_ => some k_ = (.slice Ao43 t529.length co43 : Value).ownBlock) (.slice Ao43 t529.length co43) t529 t550 t552 t553 w _ ?side1 ?side2 A68.out).mono ?_); (case side1 => exact Xi); (case side2 => exact Kd.R_tight rfl HO_11.out); rintro e w74 ⟨rfl, hy0, hb, hkp⟩; refine ⟨_, rfl, ?_⟩; replace HO_8 := Aside0.mk (Kd.R_mono (ok' := fun k_ => some k_ ≠ (v536 : Value).ownBlock) (Kd.R_keptB ((Kd.R_apart' HO_8.out (Kd.R_typed HO_11.out) (by decide))) hkp (fun k_ hk_ hs_ => (hk_.2) hs_)) (fun k_ hk_ => hk_.1.1)); replace HO_12 := Aside0.mk (Kd.R_mono (ok' := fun k_ => some k_ ≠ (v520 : Value).ownBlock) (Kd.R_keptB ((Kd.R_apart' HO_12.out (Kd.R_typed HO_11.out) (by decide))) hkp (fun k_ hk_ hs_ => (hk_.2) hs_)) (fun k_ hk_ => hk_.1.1)); replace HO_529002 := Aside0.mk (Kd.S_mono (ok' := fun k_ => some k_ ≠ (v520 : Value).ownBlock ∧ some k_ ≠ (.slice Ao43 t529.length co43 : Value).ownBlock ∧ some k_ ≠ (v536 : Value).ownBlock ∧ some k_ ≠ (.slice Ao64 t546.length co64 : Value).ownBlock ∧ k_ ≠ gb504 ∧ k_ ≠ gb505 ∧ k_ ≠ gb528) (Kd.S_keptB (HO_529002.out) hkp (fun k_ hk_ hs_ => (hk_.1.2) hs_)) (fun k_ hk_ => ⟨hk_.1.1.1.1.1.1.1.1, hk_.1.1.2, hk_.1.1.1.1.1.1.1.2, hk_.1.2, hk_.1.1.1.1.1.2, hk_.1.1.1.1.2, hk_.1.1.1.2⟩)); replace BK504 := Aside0.mk (blk_kept BK504.out hkp (fun hs_ => (fun e_ => (Kd.R_ne HO_11.out BK504.out (by decide)) e_) hs_)); replace BK505 := Aside0.mk (blk_kept BK505.out hkp (fun hs_ => (fun e_ => (Kd.R_ne HO_11.out BK505.out (by decide)) e_) hs_)); replace BK528 := Aside0.mk (blk_kept BK528.out hkp (fun hs_ => (fun e_ => (Kd.R_ne HO_11.out BK528.out (by decide)) e_) hs_)); replace HO_11 := Aside0.mk (Kd.R_reok rfl hy0 (fun k_ e_ => HO_11.out.1 k_ e_)); replace HO548 := Aside0.mk (Kd.R_mono (ok' := fun k_ => some k_ ≠ (.slice Ao43 t529.length co43 : Value).ownBlock) (Kd.R_keptB (HO548.out) hkp (fun k_ hk_ hs_ => (hk_) hs_)) (fun k_ hk_ => hk_.1)); replace HB := Aside0.mk (hb); (try clear hb); (try clear hkp); (try clear hy0)))
        (try simp only [XW.q0, XW.q1, XW.q2])
        go_cut [88] (fun v88 wc => ∃ (kq : Nat) (x88_68 : Bool), v88 = .bool x88_68 ∧ Aside0 (laws_FnExactConflictsOf.j1 kq l1 t519 t522 t535 x88_68 a0_0 a0_1 l0_2 a2_0 a2_1 a2_2 = some true) ∧ Aside0 (kq ≤ kj22) ∧ Aside0 (Kd.R (Kd.int .i64) 3 wc w.heap.size (fun k_ => some k_ ≠ (v536 : Value).ownBlock) v520 t519) ∧ Aside0 (Kd.R (Kd.int .i64) 3 wc w.heap.size (fun k_ => some k_ ≠ (v520 : Value).ownBlock) v536 t535) ∧ Aside0 (Kd.S k113 113 wc w.heap.size (fun k_ => some k_ ≠ (v520 : Value).ownBlock ∧ some k_ ≠ (v536 : Value).ownBlock) (.slice Ao38 t525.length co38) t551) ∧ Aside0 (wc.heap[gb504]? = some (.cells #[.int .i64 a0_0, .int .i64 a0_1, (.slice A0_2 l0_2.length c0_2)] 24 (0, 0))) ∧ Aside0 (wc.heap[gb505]? = some (.cells #[.int .i64 a2_0, .int .i64 a2_1, .int .i64 a2_2] 27 (0, 0))) ∧ Aside0 (wc.heap[gb528]? = some (.cells #[.int .i64 t523, .int .i64 t524, (.slice Ao38 t525.length co38)] 35 (0, 0))) ∧ Aside0 (Below w.heap.size w wc))
        case first =>
         have H := HC69.out
         clear HC69
         obtain ⟨c75b0, H⟩ | ⟨c75b0, H⟩ := Xit H
         ·(first | rw [c75b0] | (simp only [i64_w, i32_w]; rw [c75b0]) | skip)
          have H' := Aside0.mk H
          clear H
          go_wp2
          go_meet
          case rel => exact ⟨_, (true), Xr, H', ⟨by have := HJ22.out; first | omega | exact Nat.le_refl _⟩, (Xp' HO_8), (Xp' HO_12), ⟨by (with_reducible repeat (first | apply Kd.S_alloc | apply Kd.S_drewN | apply Kd.S_drew)); exact Kd.S_mono HO_529002.out (fun _ hk => ⟨hk.1, hk.2.2.1⟩)⟩, BK504, BK505, BK528, ⟨Xi⟩⟩
         ·(first | rw [c75b0] | (simp only [i64_w, i32_w]; rw [c75b0]) | skip)
          obtain ⟨t554, A76, H⟩ := Xbi H
          (try dsimp only at H)
          by_cases c77 : t554 = true
          ·subst c77
           (first | rw [if_pos rfl] at H | skip)
           have H' := Aside0.mk H
           clear H
           obtain ⟨Ao78, co78, eo78⟩ := Kd.R_slice HO_12.out
           subst eo78
           obtain ⟨Ao79, co79, eo79⟩ := Kd.R_slice HO_8.out
           subst eo79
           go_wp2_with (first | (go_at_call 14; (with_reducible refine (laws_eqIntS.calls kj22 _ _ t535 _ _ t519 true _ ?side1 ?side2 ?side3 ?side4 A76.out).mono ?_); (case side1 => repeat (first | exact (Kd.R_reads' HO_12.out).2.2 | (with_reducible first | refine Kd.C_alloc ?_ _ | refine Kd.C_drewN ?_ _ | refine Kd.C_drew ?_))); (case side2 => exact (Kd.R_reads' HO_12.out).2.1); (case side3 => repeat (first | exact (Kd.R_reads' HO_8.out).2.2 | (with_reducible first | refine Kd.C_alloc ?_ _ | refine Kd.C_drewN ?_ _ | refine Kd.C_drew ?_))); (case side4 => exact (Kd.R_reads' HO_8.out).2.1); rintro e w' ⟨rfl, ⟨nd, rfl⟩⟩))
           go_meet
           case rel => exact ⟨_, ((t538 != t522)), Xr, H', ⟨by have := HJ22.out; first | omega | exact Nat.le_refl _⟩, (Xp' HO_8), (Xp' HO_12), ⟨by (with_reducible repeat (first | apply Kd.S_alloc | apply Kd.S_drewN | apply Kd.S_drew)); exact Kd.S_mono HO_529002.out (fun _ hk => ⟨hk.1, hk.2.2.1⟩)⟩, BK504, BK505, BK528, ⟨Xi⟩⟩
          ·replace c77 := Bool.eq_false_iff.mpr c77
           subst c77
           (first | rw [if_neg (show ¬ (false = true) by decide)] at H | skip)
           have H' := Aside0.mk H
           clear H
           obtain ⟨Ao80, co80, eo80⟩ := Kd.R_slice HO_12.out
           subst eo80
           obtain ⟨Ao81, co81, eo81⟩ := Kd.R_slice HO_8.out
           subst eo81
           go_wp2_with (first | (go_at_call 14; (with_reducible refine (laws_eqIntS.calls kj22 _ _ t535 _ _ t519 false _ ?side1 ?side2 ?side3 ?side4 A76.out).mono ?_); (case side1 => repeat (first | exact (Kd.R_reads' HO_12.out).2.2 | (with_reducible first | refine Kd.C_alloc ?_ _ | refine Kd.C_drewN ?_ _ | refine Kd.C_drew ?_))); (case side2 => exact (Kd.R_reads' HO_12.out).2.1); (case side3 => repeat (first | exact (Kd.R_reads' HO_8.out).2.2 | (with_reducible first | refine Kd.C_alloc ?_ _ | refine Kd.C_drewN ?_ _ | refine Kd.C_drew ?_))); (case side4 => exact (Kd.R_reads' HO_8.out).2.1); rintro e w' ⟨rfl, ⟨nd, rfl⟩⟩))
           go_meet
           case rel => exact ⟨_, (true), Xr, H', ⟨by have := HJ22.out; first | omega | exact Nat.le_refl _⟩, (Xp' HO_8), (Xp' HO_12), ⟨by (with_reducible repeat (first | apply Kd.S_alloc | apply Kd.S_drewN | apply Kd.S_drew)); exact Kd.S_mono HO_529002.out (fun _ hk => ⟨hk.1, hk.2.2.1⟩)⟩, BK504, BK505, BK528, ⟨Xi⟩⟩
        case rest =>
         clear HC69
         (try clear c1); (try clear c11); (try clear c11b0); (try clear c14); (try clear c14b0); (try clear c51); (try clear c59); (try clear c66); (try clear hcz32_0); (try clear hcz32_1); (try clear hcz32_2); (try clear hcz37_0); (try clear hcz37_1); (try clear hcz37_2); (try clear hcz72_0); (try clear hcz72_1); (try clear hcz72_2); (try clear hcz9_0); (try clear hcz9_1); (try clear hcz9_2); (try clear hfz32_0); (try clear hfz32_1); (try clear hfz32_2); (try clear hfz37_0); (try clear hfz37_1); (try clear hfz37_2); (try clear hfz72_0); (try clear hfz72_1); (try clear hfz72_2); (try clear hfz9_0); (try clear hfz9_1); (try clear hfz9_2)
         (try clear HO_8); (try clear HO_12); (try clear HO_529002)
         obtain ⟨kq, x88_68, rfl, HA, HJ68, HO_8, HO_12, HO_529002, BK504, BK505, BK528, HB⟩ := hcut
         have hl529002_68 := (Kd.S_reads' HO_529002.out).1
         rw [hl529002_68] at HO_529002
         (try simp only [hl529002_68])
         (try simp only [hl529002_68] at BK504)
         (try simp only [hl529002_68] at BK505)
         (try simp only [hl529002_68] at BK528)
         (try simp only [hl529002_68] at HO_8)
         (try simp only [hl529002_68] at HO_12)
         cases kq with
         | zero => cases HA.out
         | succ kj68 =>
          have H := HA.out
          clear HA
          simp only [laws_FnExactConflictsOf.j1] at H
          by_cases c82 : x88_68 = true
          ·subst c82
           (first | rw [if_pos rfl] at H | skip)
           cases H
          ·replace c82 := Bool.eq_false_iff.mpr c82
           subst c82
           (first | rw [if_neg (show ¬ (false = true) by decide)] at H | skip)
           replace H := Option.bind_eq_some_iff.mp H
           obtain ⟨⟨t555, t556⟩, A830, H⟩ := H
           (try dsimp only at H)
           have A83 := Aside0.mk A830
           clear A830
           obtain ⟨t557, A84, H⟩ := Xbi H
           (try dsimp only at H)
           have HC85 := Aside0.mk H
           clear H
           obtain ⟨Ao86, co86, eo86⟩ := Kd.R_slice HO_12.out
           subst eo86
           go_upto_if 96 with (first | ((with_reducible refine gate_callee (f := 19) rfl ?_); refine Xgo 91 Tryz.func19 #[.slice Ao86 t535.length co86, .int .i64 1] ?_; (with_reducible refine (laws_markIntS.calls kj68 (fun k_ => some k_ = (.slice Ao86 t535.length co86 : Value).ownBlock) (.slice Ao86 t535.length co86) t535 1 t555 t556 w _ ?side1 ?side2 A83.out).mono ?_); (case side1 => exact Xi); (case side2 => exact Kd.R_tight rfl HO_12.out); rintro e w87 ⟨rfl, hy0, hb, hkp⟩; refine ⟨_, rfl, ?_⟩; replace HO_8 := Aside0.mk (Kd.R_mono (ok' := fun k_ => some k_ ≠ (.slice Ao86 t535.length co86 : Value).ownBlock) (Kd.R_keptB (HO_8.out) hkp (fun k_ hk_ hs_ => (hk_) hs_)) (fun k_ hk_ => hk_.1)); replace HO_529002 := Aside0.mk (Kd.S_mono (ok' := fun k_ => some k_ ≠ (v520 : Value).ownBlock ∧ some k_ ≠ (.slice Ao86 t535.length co86 : Value).ownBlock) (Kd.S_keptB (HO_529002.out) hkp (fun k_ hk_ hs_ => (hk_.2) hs_)) (fun k_ hk_ => ⟨hk_.1.1, hk_.1.2⟩)); replace BK504 := Aside0.mk (blk_kept BK504.out hkp (fun hs_ => (fun e_ => (Kd.R_ne HO_12.out BK504.out (by decide)) e_) hs_)); replace BK505 := Aside0.mk (blk_kept BK505.out hkp (fun hs_ => (fun e_ => (Kd.R_ne HO_12.out BK505.out (by decide)) e_) hs_)); replace BK528 := Aside0.mk (blk_kept BK528.out hkp (fun hs_ => (fun e_ => (Kd.R_ne HO_12.out BK528.out (by decide)) e_) hs_)); replace HO_12 := Aside0.mk (Kd.R_reok rfl hy0 (fun k_ e_ => HO_12.out.1 k_ e_)); replace HB := Aside0.mk (hb); (try clear hb); (try clear hkp); (try clear hy0)) | ((with_reducible refine gate_callee (f := 20) rfl ?_); refine goesL_ (some 94) rfl rfl Tryz.func20 (by kernel_rfl) rfl #[.slice Ao86 t556.length co86, .int .i64 1] rfl (by (try simp only [List.map_toArray, List.map_cons, List.map_nil]); first | done | (rw [show t556.length = t535.length from (Kd.R_reads' HO_12.out).1.symm] <;> rfl) | rfl | (simp only [List.length_drop, List.length_take]; rfl)) ?_; (with_reducible refine (laws_heldIntS.calls kj68 _ _ t556 1 t557 _ ?side1 ?side2 A84.out).mono ?_); (case side1 => repeat (first | exact (Kd.R_reads' HO_12.out).2.2 | (with_reducible first | refine Kd.C_alloc ?_ _ | refine Kd.C_drewN ?_ _ | refine Kd.C_drew ?_))); (case side2 => rw [show t556.length = t535.length from (Kd.R_reads' HO_12.out).1.symm]; exact (Kd.R_reads' HO_12.out).2.1); rintro e w' ⟨rfl, ⟨nd, rfl⟩⟩; refine ⟨_, rfl, ?_⟩))
           (try (rw [drewN_self w87]; generalize hq_ : World.drewN w87 _ = w87; have n0_ : Aside0 (Kd.R (Kd.int .i64) 3 w87 w.heap.size (fun k_ => some k_ ≠ (v520 : Value).ownBlock) (.slice Ao86 t535.length co86) t556) := ⟨by rw [← hq_]; exact (Xq HO_12)⟩; have n1_ : Aside0 (Kd.S k113 113 w87 w.heap.size (fun k_ => some k_ ≠ (v520 : Value).ownBlock ∧ some k_ ≠ (.slice Ao86 t535.length co86 : Value).ownBlock) (.slice Ao38 t551.length co38) t551) := ⟨by rw [← hq_]; exact (Xq HO_529002)⟩; have n2_ : Aside0 (Kd.R (Kd.int .i64) 3 w87 w.heap.size (fun k_ => some k_ ≠ (.slice Ao86 t535.length co86 : Value).ownBlock) v520 t519) := ⟨by rw [← hq_]; exact (Xq HO_8)⟩; have n3_ : Aside0 (w87.heap[gb504]? = some (.cells #[.int .i64 a0_0, .int .i64 a0_1, .slice A0_2 l0_2.length c0_2] 24 (0, 0))) := ⟨by rw [← hq_]; exact BK504.out⟩; have n4_ : Aside0 (w87.heap[gb505]? = some (.cells #[.int .i64 a2_0, .int .i64 a2_1, .int .i64 a2_2] 27 (0, 0))) := ⟨by rw [← hq_]; exact BK505.out⟩; have n5_ : Aside0 (w87.heap[gb528]? = some (.cells #[.int .i64 t523, .int .i64 t524, .slice Ao38 t551.length co38] 35 (0, 0))) := ⟨by rw [← hq_]; exact BK528.out⟩; have n6_ : Aside0 (Below w.heap.size w w87) := ⟨by rw [← hq_]; exact Xi⟩; clear HO_12 HO_529002 HO_8 BK504 BK505 BK528 HB hq_; have HO_12 := n0_; have HO_529002 := n1_; have HO_8 := n2_; have BK504 := n3_; have BK505 := n4_; have BK528 := n5_; have HB := n6_; clear n0_ n1_ n2_ n3_ n4_ n5_ n6_))
           have H := HC85.out
           clear HC85
           obtain ⟨c88b0, H⟩ | ⟨c88b0, H⟩ := Xit H
           ·(first | rw [c88b0] | (simp only [i64_w, i32_w]; rw [c88b0]) | skip)
            cases H
           ·(first | rw [c88b0] | (simp only [i64_w, i32_w]; rw [c88b0]) | skip)
            obtain ⟨c89, H⟩ | ⟨c89, H⟩ := Xiu H
            ·have c89b0 : (t557 == t555) = true := beq_iff_eq.mpr c89
             have c89b1 : (t557 != t555) = false := bne_eq_false_iff_eq.mpr c89
             clear c89
             replace H := Option.bind_eq_some_iff.mp H
             obtain ⟨⟨t558, t559, t560⟩, A900, H⟩ := H
             (try dsimp only at H)
             have A90 := Aside0.mk A900
             clear A900
             obtain ⟨t563, A91, H⟩ := Xbi H
             (try dsimp only at H)
             replace H := Option.bind_eq_some_iff.mp H
             obtain ⟨⟨t566, t567, t568⟩, A920, H⟩ := H
             (try dsimp only at H)
             have A92 := Aside0.mk A920
             clear A920
             replace H := Option.bind_eq_some_iff.mp H
             obtain ⟨⟨t569, t572⟩, A930, H⟩ := H
             (try dsimp only at H)
             have A93 := Aside0.mk A930
             clear A930
             have HC94 := Aside0.mk H
             clear H
             try go_wp2
             replace HO_8 := Aside0.mk (Kd.R_drew HO_8.out)
             replace HO_12 := Aside0.mk (Kd.R_drew HO_12.out)
             replace HO_529002 := Aside0.mk (Kd.S_drew HO_529002.out)
             replace BK504 := Aside0.mk (blk_drew BK504.out)
             replace BK505 := Aside0.mk (blk_drew BK505.out)
             replace BK528 := Aside0.mk (blk_drew BK528.out)
             replace HB := Aside0.mk (below_drew1 HB.out)
             refine start_ (n := 12) (S := fun w' => w'.cell? ⟨gb504, 0, none⟩ = some (.int .i64 a0_0) ∧ w'.cell? ⟨gb504, 1, none⟩ = some (.int .i64 a0_1) ∧ w'.cell? ⟨gb504, 2, none⟩ = some (.slice A0_2 l0_2.length c0_2) ∧ w'.cell? ⟨gb505, 0, none⟩ = some (.int .i64 a2_0) ∧ w'.cell? ⟨gb505, 1, none⟩ = some (.int .i64 a2_1) ∧ w'.cell? ⟨gb505, 2, none⟩ = some (.int .i64 a2_2)) (ds := []) #[false, false, false, false, false, false, false, false, false, false, false, false] (by kernel_rfl) rfl rfl ⟨(blk_cell BK504.out 0).trans rfl, (blk_cell BK504.out 1).trans rfl, (blk_cell BK504.out 2).trans rfl, (blk_cell BK505.out 0).trans rfl, (blk_cell BK505.out 1).trans rfl, (blk_cell BK505.out 2).trans rfl⟩ (fun hHeld => ?_); refine with_tabW laws_FnExactConflictsOf.tab31 laws_FnExactConflictsOf.bits31 (fun HT_ HW_ => ?_)
             generalize w87.drew = w95 at HO_8 HO_12 HO_529002 BK504 BK505 BK528 HB hHeld ⊢
             refine Xpu 2 103 (XW.bs 12 4) HT_.out ?_
             refine Xta 0 101 (XW.bs 12 5) HT_.out HW_.out hHeld ?_
             refine Xta 4 105 (XW.bs 12 21) HT_.out HW_.out hHeld ?_
             refine one_ (i := 1) (N := some 102) (XW.bs 12 23) rfl rfl (one_of HT_.out (by kernel_rfl)) (by decide) (fun K hK => ?_)
             refine goes_ Tryz.func10 (by kernel_rfl) rfl #[.agg #[.int .i64 a0_0, .int .i64 a0_1, .slice A0_2 l0_2.length c0_2]] (by rfl) rfl rfl (by (try simp only [List.map_toArray, List.map_cons, List.map_nil]); first | done | rfl | (simp only [List.length_drop, List.length_take]; rfl)) ?_
             with_reducible refine (laws_toDoc.calls kj68 a0_0 a0_1 _ _ l0_2 t558 t559 t560 _ ?side1 ?side2 A90.out).mono ?_
             (case side1 => exact Xc HR0_2)
             (case side2 => exact HC0_2.out)
             rintro e w96 ⟨v561, rfl, ho0, hb⟩
             refine ⟨_, rfl, ?_⟩
             have HO562 := Aside0.mk (Kd.S_lower (Kd.S_new' (Kd.S_new' (Kd.S_new' ho0 (Kd.R_lt (Xq HO_8))) (Kd.R_lt (Xq HO_12))) (Kd.S_lt (Xq HO_529002))) (below_size Xi))
             replace HO_8 := Aside0.mk (Kd.R_below (Xq HO_8) hb)
             replace HO_12 := Aside0.mk (Kd.R_below (Xq HO_12) hb)
             replace HO_529002 := Aside0.mk (Kd.S_elder' (Xq HO_529002) (Kd.S_base ho0) hb)
             replace BK504 := Xbb BK504 hb
             replace BK505 := Xbb BK505 hb
             replace BK528 := Xbb BK528 hb
             replace HB := Aside0.mk (below_step Xi hb)
             (try clear hb)
             (try clear hb2)
             (try clear hk)
             (try clear hi)
             (try clear ho0)
             refine hK.out _ _ ⟨(blk_cell BK504.out 0).trans rfl, (blk_cell BK504.out 1).trans rfl, (blk_cell BK504.out 2).trans rfl, (blk_cell BK505.out 0).trans rfl, (blk_cell BK505.out 1).trans rfl, (blk_cell BK505.out 2).trans rfl⟩ (fun hHeld => ?_)
             clear hK K
             refine Xno ?_
             refine one_ (i := 3) (N := some 104) (XW.bs 12 31) rfl rfl (one_of HT_.out (by kernel_rfl)) (by decide) (fun K hK => ?_)
             refine goes_ Tryz.func11 (by kernel_rfl) rfl #[.slice A1 l1.length c1] (by rfl) rfl rfl (by (try simp only [List.map_toArray, List.map_cons, List.map_nil]); first | done | rfl | (simp only [List.length_drop, List.length_take]; rfl)) ?_
             with_reducible refine (laws_toHoldS.calls kj68 _ _ l1 t563 _ ?side1 ?side2 A91.out).mono ?_
             (case side1 => exact Xc HR1)
             (case side2 => exact HC1.out)
             rintro e w97 ⟨v564, rfl, ho0, hb⟩
             refine ⟨_, rfl, ?_⟩
             replace HO_8 := Aside0.mk (Kd.R_below (Xq HO_8) hb)
             replace HO_12 := Aside0.mk (Kd.R_below (Xq HO_12) hb)
             replace HO_529002 := Aside0.mk (Kd.S_below (Xq HO_529002) hb)
             replace HO562 := Aside0.mk (Kd.S_below (Xq HO562) hb)
             have HO565 := Aside0.mk (Kd.R_lower ho0 (below_size Xi))
             replace BK504 := Xbb BK504 hb
             replace BK505 := Xbb BK505 hb
             replace BK528 := Xbb BK528 hb
             replace HB := Aside0.mk (below_step Xi hb)
             (try clear hb)
             (try clear hb2)
             (try clear hk)
             (try clear hi)
             (try clear ho0)
             refine hK.out _ _ ⟨(blk_cell BK504.out 0).trans rfl, (blk_cell BK504.out 1).trans rfl, (blk_cell BK504.out 2).trans rfl, (blk_cell BK505.out 0).trans rfl, (blk_cell BK505.out 1).trans rfl, (blk_cell BK505.out 2).trans rfl⟩ (fun hHeld => ?_)
             clear hK K
             refine Xno ?_
             refine one_ (i := 5) (N := some 106) (XW.bs 12 63) rfl rfl (one_of HT_.out (by kernel_rfl)) (by decide) (fun K hK => ?_)
             refine goes_ Tryz.func12 (by kernel_rfl) rfl #[.agg #[.int .i64 a2_0, .int .i64 a2_1, .int .i64 a2_2]] (by rfl) rfl rfl (by (try simp only [List.map_toArray, List.map_cons, List.map_nil]); first | done | rfl | (simp only [List.length_drop, List.length_take]; rfl)) ?_
             with_reducible refine (laws_toHold.calls a2_0 a2_1 a2_2 t566 t567 t568 _ A92.out).mono ?_
             rintro e w98 ⟨rfl, hb⟩
             refine ⟨_, rfl, ?_⟩
             replace HO_8 := Aside0.mk (Kd.R_below (Xq HO_8) hb)
             replace HO_12 := Aside0.mk (Kd.R_below (Xq HO_12) hb)
             replace HO_529002 := Aside0.mk (Kd.S_below (Xq HO_529002) hb)
             replace HO562 := Aside0.mk (Kd.S_below (Xq HO562) hb)
             replace HO565 := Aside0.mk (Kd.R_below (Xq HO565) hb)
             replace BK504 := Xbb BK504 hb
             replace BK505 := Xbb BK505 hb
             replace BK528 := Xbb BK528 hb
             replace HB := Aside0.mk (below_step Xi hb)
             (try clear hb)
             (try clear hb2)
             (try clear hk)
             (try clear hi)
             obtain ⟨Ao99, co99, eo99⟩ := Kd.S_slice HO562.out
             (first | subst eo99 | (injection eo99 with f1_ f2_ f3_; have f4_ := f1_.symm; have f5_ := f3_.symm; clear f1_ f2_ f3_; subst f4_; subst f5_))
             obtain ⟨Ao100, co100, eo100⟩ := Kd.R_slice HO565.out
             (first | subst eo100 | (injection eo100 with f1_ f2_ f3_; have f4_ := f1_.symm; have f5_ := f3_.symm; clear f1_ f2_ f3_; subst f4_; subst f5_))
             refine hK.out _ _ ⟨(blk_cell BK504.out 0).trans rfl, (blk_cell BK504.out 1).trans rfl, (blk_cell BK504.out 2).trans rfl, (blk_cell BK505.out 0).trans rfl, (blk_cell BK505.out 1).trans rfl, (blk_cell BK505.out 2).trans rfl⟩ (fun hHeld => ?_)
             clear hK K
             refine Xno ?_
             refine one_ (i := 6) (N := some 107) (XW.bs 12 127) rfl rfl (one_of HT_.out (by kernel_rfl)) (by decide) (fun K hK => ?_)
             refine goes_ Tryz.func13 (by kernel_rfl) rfl #[.agg #[.int .i64 t558, .int .i64 t559, .slice Ao99 t560.length co99], .slice Ao100 t563.length co100, .agg #[.int .i64 t566, .int .i64 t567, .int .i64 t568]] (by rfl) rfl rfl (by (try simp only [List.map_toArray, List.map_cons, List.map_nil]); first | done | rfl | (simp only [List.length_drop, List.length_take]; rfl)) ?_
             with_reducible refine (impl_ConflictsOf.calls kj68 t558 t559 _ _ t560 _ _ t563 t566 t567 t568 t569 t572 _ ?side1 ?side2 ?side3 ?side4 A93.out).mono ?_
             (case side1 => repeat (first | exact (Kd.S_reads' HO562.out).2.2 | (with_reducible first | refine Kd.C_alloc ?_ _ | refine Kd.C_drewN ?_ _ | refine Kd.C_drew ?_)))
             (case side2 => exact (Kd.S_reads' HO562.out).2.1)
             (case side3 => repeat (first | exact (Kd.R_reads' HO565.out).2.2 | (with_reducible first | refine Kd.C_alloc ?_ _ | refine Kd.C_drewN ?_ _ | refine Kd.C_drew ?_)))
             (case side4 => exact (Kd.R_reads' HO565.out).2.1)
             rintro e w101 ⟨v570, rfl, ho0, hb⟩
             refine ⟨_, rfl, ?_⟩
             replace HO_529002 := Aside0.mk (Kd.S_elder' (Xq HO_529002) (Kd.R_base ho0) hb)
             replace HO562 := Aside0.mk (Kd.S_elder' (Xq HO562) (Kd.R_base ho0) hb)
             replace HO565 := Aside0.mk (Kd.R_below (Xq HO565) hb)
             have HO571 := Aside0.mk (Kd.R_lower (Kd.R_new' (Kd.R_new' ho0 (Kd.R_lt (Xq HO_8))) (Kd.R_lt (Xq HO_12))) (below_size Xi))
             replace HO_8 := Aside0.mk (Kd.R_elder' (Xq HO_8) (Kd.R_base ho0) hb)
             replace HO_12 := Aside0.mk (Kd.R_elder' (Xq HO_12) (Kd.R_base ho0) hb)
             replace BK504 := Xbb BK504 hb
             replace BK505 := Xbb BK505 hb
             replace BK528 := Xbb BK528 hb
             replace HB := Aside0.mk (below_step Xi hb)
             (try clear hb)
             (try clear hb2)
             (try clear hk)
             (try clear hi)
             (try clear ho0)
             refine hK.out _ _ ⟨(blk_cell BK504.out 0).trans rfl, (blk_cell BK504.out 1).trans rfl, (blk_cell BK504.out 2).trans rfl, (blk_cell BK505.out 0).trans rfl, (blk_cell BK505.out 1).trans rfl, (blk_cell BK505.out 2).trans rfl⟩ (fun hHeld => ?_)
             clear hK K
             refine Xno ?_
             refine Xpu 7 100 (XW.bs 12 255) HT_.out ?_
             refine Xpu 8 108 (XW.bs 12 511) HT_.out ?_
             refine Xpu 9 109 (XW.bs 12 1023) HT_.out ?_
             refine Xpu 10 17 (XW.bs 12 2047) HT_.out ?_
             refine Xpu 11 18 (XW.bs 12 4095) HT_.out ?_
             refine done_ (done_of HT_.out (by kernel_rfl)) ?_
             go_upto_region 32 with (fail)
             go_cut [118] (fun v118 wc => ∃ (kq : Nat) (x118_93 : Bool), v118 = .bool x118_93 ∧ Aside0 (laws_FnExactConflictsOf.j2 kq t556 t555 x118_93 = some true) ∧ Aside0 (kq ≤ kj68) ∧ Aside0 (Kd.R (Kd.int .i64) 3 wc w.heap.size (fun _ => True) (.slice Ao86 t535.length co86) t556) ∧ Aside0 (Kd.S k113 113 wc w.heap.size (fun k_ => some k_ ≠ ((.slice Ao86 t535.length co86) : Value).ownBlock) (.slice Ao38 t551.length co38) t551) ∧ Aside0 (wc.heap[gb504]? = some (.cells #[.int .i64 a0_0, .int .i64 a0_1, (.slice A0_2 l0_2.length c0_2)] 24 (0, 0))) ∧ Aside0 (wc.heap[gb505]? = some (.cells #[.int .i64 a2_0, .int .i64 a2_1, .int .i64 a2_2] 27 (0, 0))) ∧ Aside0 (wc.heap[gb528]? = some (.cells #[.int .i64 t523, .int .i64 t524, (.slice Ao38 t551.length co38)] 35 (0, 0))) ∧ Aside0 (Below w.heap.size w wc))
             case first =>
              have H := HC94.out
              clear HC94
              obtain ⟨t573, A102, H⟩ := Xbi H
              (try dsimp only at H)
              by_cases c103 : t573 = true
              ·subst c103
               (first | rw [if_pos rfl] at H | skip)
               have H' := Aside0.mk H
               clear H
               obtain ⟨Ao104, co104, eo104⟩ := Kd.R_slice HO571.out
               subst eo104
               obtain ⟨Ao105, co105, eo105⟩ := Kd.R_slice HO_8.out
               subst eo105
               go_wp2_with (first | ((with_reducible refine gate_callee (f := 14) rfl ?_); refine Xgo 112 Tryz.func14 #[.slice Ao104 t569.length co104, .slice Ao105 t519.length co105] ?_; (with_reducible refine (laws_eqIntS.calls kj68 _ _ t569 _ _ t519 true _ ?side1 ?side2 ?side3 ?side4 A102.out).mono ?_); (case side1 => repeat (first | exact (Kd.R_reads' HO571.out).2.2 | (with_reducible first | refine Kd.C_alloc ?_ _ | refine Kd.C_drewN ?_ _ | refine Kd.C_drew ?_))); (case side2 => exact (Kd.R_reads' HO571.out).2.1); (case side3 => repeat (first | exact (Kd.R_reads' HO_8.out).2.2 | (with_reducible first | refine Kd.C_alloc ?_ _ | refine Kd.C_drewN ?_ _ | refine Kd.C_drew ?_))); (case side4 => exact (Kd.R_reads' HO_8.out).2.1); rintro e w' ⟨rfl, ⟨nd, rfl⟩⟩; refine ⟨_, rfl, ?_⟩))
               go_meet
               case rel => exact ⟨_, ((t572 != t522)), Xr, H', ⟨by have := HJ22.out; have := HJ68.out; first | omega | exact Nat.le_refl _⟩, ⟨by (try simp only [hl529002_68]); (with_reducible repeat (first | apply Kd.R_alloc | apply Kd.R_drewN | apply Kd.R_drew)); exact Kd.R_mono HO_12.out (fun _ hk => trivial)⟩, ⟨by (try simp only [hl529002_68]); (with_reducible repeat (first | apply Kd.S_alloc | apply Kd.S_drewN | apply Kd.S_drew)); exact Kd.S_mono HO_529002.out (fun _ hk => hk.1.1.2)⟩, ⟨by (try simp only [hl529002_68]); exact BK504.out⟩, ⟨by (try simp only [hl529002_68]); exact BK505.out⟩, ⟨by (try simp only [hl529002_68]); exact BK528.out⟩, ⟨Xi⟩⟩
              ·replace c103 := Bool.eq_false_iff.mpr c103
               subst c103
               (first | rw [if_neg (show ¬ (false = true) by decide)] at H | skip)
               have H' := Aside0.mk H
               clear H
               obtain ⟨Ao106, co106, eo106⟩ := Kd.R_slice HO571.out
               subst eo106
               obtain ⟨Ao107, co107, eo107⟩ := Kd.R_slice HO_8.out
               subst eo107
               go_wp2_with (first | ((with_reducible refine gate_callee (f := 14) rfl ?_); refine Xgo 112 Tryz.func14 #[.slice Ao106 t569.length co106, .slice Ao107 t519.length co107] ?_; (with_reducible refine (laws_eqIntS.calls kj68 _ _ t569 _ _ t519 false _ ?side1 ?side2 ?side3 ?side4 A102.out).mono ?_); (case side1 => repeat (first | exact (Kd.R_reads' HO571.out).2.2 | (with_reducible first | refine Kd.C_alloc ?_ _ | refine Kd.C_drewN ?_ _ | refine Kd.C_drew ?_))); (case side2 => exact (Kd.R_reads' HO571.out).2.1); (case side3 => repeat (first | exact (Kd.R_reads' HO_8.out).2.2 | (with_reducible first | refine Kd.C_alloc ?_ _ | refine Kd.C_drewN ?_ _ | refine Kd.C_drew ?_))); (case side4 => exact (Kd.R_reads' HO_8.out).2.1); rintro e w' ⟨rfl, ⟨nd, rfl⟩⟩; refine ⟨_, rfl, ?_⟩))
               go_meet
               case rel => exact ⟨_, (true), Xr, H', ⟨by have := HJ22.out; have := HJ68.out; first | omega | exact Nat.le_refl _⟩, ⟨by (try simp only [hl529002_68]); (with_reducible repeat (first | apply Kd.R_alloc | apply Kd.R_drewN | apply Kd.R_drew)); exact Kd.R_mono HO_12.out (fun _ hk => trivial)⟩, ⟨by (try simp only [hl529002_68]); (with_reducible repeat (first | apply Kd.S_alloc | apply Kd.S_drewN | apply Kd.S_drew)); exact Kd.S_mono HO_529002.out (fun _ hk => hk.1.1.2)⟩, ⟨by (try simp only [hl529002_68]); exact BK504.out⟩, ⟨by (try simp only [hl529002_68]); exact BK505.out⟩, ⟨by (try simp only [hl529002_68]); exact BK528.out⟩, ⟨Xi⟩⟩
             case rest =>
              clear HC94
              (try clear c1); (try clear c11); (try clear c11b0); (try clear c14); (try clear c14b0); (try clear c51); (try clear c59); (try clear c66); (try clear c82); (try clear c88); (try clear c88b0); (try clear c89); (try clear c89b0); (try clear c89b1); (try clear hcz32_0); (try clear hcz32_1); (try clear hcz32_2); (try clear hcz37_0); (try clear hcz37_1); (try clear hcz37_2); (try clear hcz72_0); (try clear hcz72_1); (try clear hcz72_2); (try clear hcz9_0); (try clear hcz9_1); (try clear hcz9_2); (try clear hfz32_0); (try clear hfz32_1); (try clear hfz32_2); (try clear hfz37_0); (try clear hfz37_1); (try clear hfz37_2); (try clear hfz72_0); (try clear hfz72_1); (try clear hfz72_2); (try clear hfz9_0); (try clear hfz9_1); (try clear hfz9_2)
              (try clear HO_12); (try clear HO_529002)
              obtain ⟨kq, x118_93, rfl, HA, HJ93, HO_12, HO_529002, BK504, BK505, BK528, HB⟩ := hcut
              have hl12_93 := (Kd.R_reads' HO_12.out).1
              rw [hl12_93] at HO_12
              (try simp only [hl12_93])
              (try simp only [hl12_93] at BK504)
              (try simp only [hl12_93] at BK505)
              (try simp only [hl12_93] at BK528)
              (try simp only [hl12_93] at HO_529002)
              cases kq with
              | zero => cases HA.out
              | succ kj93 =>
               have H := HA.out
               clear HA
               simp only [laws_FnExactConflictsOf.j2] at H
               by_cases c108 : x118_93 = true
               ·subst c108
                (first | rw [if_pos rfl] at H | skip)
                cases H
               ·replace c108 := Bool.eq_false_iff.mpr c108
                subst c108
                (first | rw [if_neg (show ¬ (false = true) by decide)] at H | skip)
                obtain ⟨t574, A109, H⟩ := Xbi H
                (try dsimp only at H)
                have HC110 := Aside0.mk H
                clear H
                go_upto_if 123 with (first | ((with_reducible refine gate_callee (f := 20) rfl ?_); refine Xgo 121 Tryz.func20 #[.slice Ao86 t556.length co86, .int .i64 1] ?_; (with_reducible refine (laws_heldIntS.calls kj93 _ _ t556 1 t574 _ ?side1 ?side2 A109.out).mono ?_); (case side1 => repeat (first | exact (Kd.R_reads' HO_12.out).2.2 | (with_reducible first | refine Kd.C_alloc ?_ _ | refine Kd.C_drewN ?_ _ | refine Kd.C_drew ?_))); (case side2 => exact (Kd.R_reads' HO_12.out).2.1); rintro e w' ⟨rfl, ⟨nd, rfl⟩⟩; refine ⟨_, rfl, ?_⟩))
                (try (rw [drewN_self wc]; generalize hq_ : World.drewN wc _ = wc; have n0_ : Aside0 (Kd.R (Kd.int .i64) 3 wc w.heap.size (fun _ => True) (.slice Ao86 t556.length co86) t556) := ⟨by rw [← hq_]; exact (Xq HO_12)⟩; have n1_ : Aside0 (Kd.S k113 113 wc w.heap.size (fun k_ => some k_ ≠ (.slice Ao86 t556.length co86 : Value).ownBlock) (.slice Ao38 t551.length co38) t551) := ⟨by rw [← hq_]; exact (Xq HO_529002)⟩; have n2_ : Aside0 (wc.heap[gb504]? = some (.cells #[.int .i64 a0_0, .int .i64 a0_1, .slice A0_2 l0_2.length c0_2] 24 (0, 0))) := ⟨by rw [← hq_]; exact BK504.out⟩; have n3_ : Aside0 (wc.heap[gb505]? = some (.cells #[.int .i64 a2_0, .int .i64 a2_1, .int .i64 a2_2] 27 (0, 0))) := ⟨by rw [← hq_]; exact BK505.out⟩; have n4_ : Aside0 (wc.heap[gb528]? = some (.cells #[.int .i64 t523, .int .i64 t524, .slice Ao38 t551.length co38] 35 (0, 0))) := ⟨by rw [← hq_]; exact BK528.out⟩; have n5_ : Aside0 (Below w.heap.size w wc) := ⟨by rw [← hq_]; exact Xi⟩; clear HO_12 HO_529002 BK504 BK505 BK528 HB hq_; have HO_12 := n0_; have HO_529002 := n1_; have BK504 := n2_; have BK505 := n3_; have BK528 := n4_; have HB := n5_; clear n0_ n1_ n2_ n3_ n4_ n5_))
                have H := HC110.out
                clear HC110
                obtain ⟨c111b0, H⟩ | ⟨c111b0, H⟩ := Xit H
                ·(first | rw [c111b0] | (simp only [i64_w, i32_w]; rw [c111b0]) | skip)
                 cases H
                ·(first | rw [c111b0] | (simp only [i64_w, i32_w]; rw [c111b0]) | skip)
                 obtain ⟨c112, H⟩ | ⟨c112, H⟩ := Xiu H
                 ·have c112b0 : (t574 == t555) = true := beq_iff_eq.mpr c112
                  have c112b1 : (t574 != t555) = false := bne_eq_false_iff_eq.mpr c112
                  clear c112
                  go_wp2
                  go_ret
                  exact ⟨Xe, Xi⟩
                 ·have c112b0 : (t574 == t555) = false := beq_eq_false_iff_ne.mpr c112
                  have c112b1 : (t574 != t555) = true := bne_iff_ne.mpr c112
                  cases H
            ·have c89b0 : (t557 == t555) = false := beq_eq_false_iff_ne.mpr c89
             have c89b1 : (t557 != t555) = true := bne_iff_ne.mpr c89
             cases H
       ·replace c66 := Bool.eq_false_iff.mpr c66
        subst c66
        (first | rw [if_neg (show ¬ (false = true) by decide)] at H | skip)
        cases H
      ·replace c59 := Bool.eq_false_iff.mpr c59
       subst c59
       (first | rw [if_neg (show ¬ (false = true) by decide)] at H | skip)
       cases H

end Go.Proofs.YtahhgjkgfbppeaaGreat.XA
