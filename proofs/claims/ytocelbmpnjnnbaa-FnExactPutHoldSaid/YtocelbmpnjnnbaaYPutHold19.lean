/- Contracts of the program's functions: each Go function that is named below comes to what its Lean function says. Written by xprint.py (a program of this session's, over the kit's print). Conditions: each contract's own premises. -/
import Derived.Test.YtocelbmpnjnnbaaYPutHold0
import Derived.Test.YtocelbmpnjnnbaaYPutHold1
import Derived.Test.YtocelbmpnjnnbaaYPutHold8
import Derived.Test.YtocelbmpnjnnbaaYPutHold16
import Derived.Test.YtocelbmpnjnnbaaYPutHold17
import Derived.Test.YtocelbmpnjnnbaaYPutHold18
import Derived.Test.YtocelbmpnjnnbaaYPutHoldMarkDoc
namespace Go.Proofs.Ytocelbmpnjnnbaa.XA
open Go.RowKit Go.Proofs.YtocelbmpnjnnbaaW.PrintWords Go.Proofs.YtocelbmpnjnnbaaW.PrintLast Go.Proofs.YtocelbmpnjnnbaaW.PrintMore XW
attribute [local go_sem] max2_int min2_int max_two min_two max_three min_three max_four min_four   -- for this text's walks alone
set_option linter.unusedVariables false
set_option linter.unusedSimpArgs false

/-! ### laws_FnExactPutHold: function 3 -/
mutual
def laws_FnExactPutHold.j0 : Nat → List (S27) → List (S38) → Int → List (S38) → List (S38) → Int → Bool → Int → Int → List (S144) → Int → Int → Int → Int → Int → List (S64) → Option (Bool)
 | 0, _, _, _, _, _, _, _, _, _, _, _, _, _, _, _, _ => none
 | k + 1, x1, x8, x9, x11, x12, x13, x59, x401000, x401001, x401002, x402000, x402001, x402002, x425000, x425001, x425002 => if x59 = true then (some false) else ((laws_toDoc.f k x401000 x401001 x401002).bind fun bt436 => ((laws_eqDoc.f k x425000 x425001 x425002 bt436.1 bt436.2.1 bt436.2.2).bind fun t441 => (if t441 = true then ((laws_toHoldS.f k x1).bind fun t442 => ((laws_eqHoldS.f k x11 t442).bind fun t445 => (if t445 = true then ((laws_markDoc.f k x425000 x425001 x425002 1).bind fun bt446 => ((laws_markHoldS.f k x11 bt446.1).bind fun bt448 => (if bt448.1 < 0 then (laws_FnExactPutHold.j1 k x1 x8 x9 x12 true x401000 x401001 x401002 x402000 x402001 x402002) else ((laws_eqHoldS.f k x12 x8).bind fun t450 => (if t450 = true then (laws_FnExactPutHold.j1 k x1 x8 x9 x12 (x13 != x9) x401000 x401001 x401002 x402000 x402001 x402002) else (laws_FnExactPutHold.j1 k x1 x8 x9 x12 true x401000 x401001 x401002 x402000 x402001 x402002)))))) else (some false)))) else (some false))))
def laws_FnExactPutHold.j1 : Nat → List (S27) → List (S38) → Int → List (S38) → Bool → Int → Int → List (S144) → Int → Int → Int → Option (Bool)
 | 0, _, _, _, _, _, _, _, _, _, _, _ => none
 | k + 1, x1, x8, x9, x12, x88, x401000, x401001, x401002, x402000, x402001, x402002 => if x88 = true then (some false) else ((laws_markHoldS.f k x12 1).bind fun bt451 => ((laws_heldHoldS.f k bt451.2 1).bind fun t453 => (if t453 < 0 then (some false) else (if t453 = bt451.1 then ((laws_toDoc.f k x401000 x401001 x401002).bind fun bt454 => ((laws_toHoldS.f k x1).bind fun t459 => ((laws_toHold.f x402000 x402001 x402002).bind fun bt462 => ((impl_PutHold.f k bt454.1 bt454.2.1 bt454.2.2 t459 bt462.1 bt462.2.1 bt462.2.2).bind fun bt465 => ((laws_eqHoldS.f k bt465.1 x8).bind fun t469 => (if t469 = true then (laws_FnExactPutHold.j2 k bt451.2 bt451.1 (bt465.2 != x9)) else (laws_FnExactPutHold.j2 k bt451.2 bt451.1 true))))))) else (some false)))))
def laws_FnExactPutHold.j2 : Nat → List (S38) → Int → Bool → Option (Bool)
 | 0, _, _, _ => none
 | k + 1, x12, x15, x118 => if x118 = true then (some false) else ((laws_heldHoldS.f k x12 1).bind fun t470 => (if t470 < 0 then (some false) else (if t470 = x15 then (some true) else (some false))))
end
def laws_FnExactPutHold.f (k : Nat) (a0_0 : Int) (a0_1 : Int) (l0_2 : List (S144)) (l1 : List (S27)) (a2_0 : Int) (a2_1 : Int) (a2_2 : Int) : Option (Bool) := (laws_szDoc.f k a0_0 a0_1 l0_2 1048576).bind fun t402 => (if t402 < 0 then (some true) else ((laws_szHoldS.f l1 t402).bind fun t403 => (if t403 < 0 then (some true) else ((laws_toDoc.f k a0_0 a0_1 l0_2).bind fun bt404 => ((laws_toHoldS.f k l1).bind fun t409 => ((laws_toHold.f a2_0 a2_1 a2_2).bind fun bt412 => ((spec_PutHold.f k bt404.1 bt404.2.1 bt404.2.2 t409 bt412.1 bt412.2.1 bt412.2.2).bind fun bt415 => ((laws_toDoc.f k a0_0 a0_1 l0_2).bind fun bt419 => ((laws_toHoldS.f k l1).bind fun t425 => ((laws_toHold.f a2_0 a2_1 a2_2).bind fun bt428 => ((impl_PutHold.f k bt419.1 bt419.2.1 bt419.2.2 t425 bt428.1 bt428.2.1 bt428.2.2).bind fun bt431 => ((laws_eqHoldS.f k bt431.1 bt415.1).bind fun t435 => (if t435 = true then (laws_FnExactPutHold.j0 k l1 bt415.1 bt415.2 t425 bt431.1 bt431.2 (bt431.2 != bt415.2) a0_0 a0_1 l0_2 a2_0 a2_1 a2_2 bt419.1 bt419.2.1 bt419.2.2) else (laws_FnExactPutHold.j0 k l1 bt415.1 bt415.2 t425 bt431.1 bt431.2 true a0_0 a0_1 l0_2 a2_0 a2_1 a2_2 bt419.1 bt419.2.1 bt419.2.2))))))))))))))
def laws_FnExactPutHold.T8 : Bool × List (List Nat × List Nat) := (true, [([], []), ([0], [0]), ([], []), ([2, 1], [2]), ([], []), ([4, 3], [4]), ([1, 3, 5, 5], [1, 3, 5]), ([6], [6]), ([7], [7]), ([7], [7]), ([8, 6, 0, 1, 2, 3, 4, 5, 6, 7, 8], [8]), ([9, 10, 0, 1, 2, 3, 4, 5, 6, 7, 8, 9, 10], [9])])
def laws_FnExactPutHold.B8 : List Nat := [0, 1, 0, 7, 0, 31, 63, 127, 255, 255, 511, 2047]
theorem laws_FnExactPutHold.tab8 : rtab .any (opsOf Try.f3 8) = laws_FnExactPutHold.T8 := by kernel_rfl
theorem laws_FnExactPutHold.bits8 : waitsOk laws_FnExactPutHold.T8.2 laws_FnExactPutHold.B8 = true := by kernel_rfl
def laws_FnExactPutHold.T11 : Bool × List (List Nat × List Nat) := (true, [([], []), ([], []), ([], []), ([2], [2]), ([0, 1, 3, 3], [0, 1, 3]), ([4], [4]), ([5], [5]), ([5], [5]), ([6, 4, 0, 1, 2, 3, 4, 5, 6], [6]), ([7, 8, 0, 1, 2, 3, 4, 5, 6, 7, 8], [7])])
def laws_FnExactPutHold.B11 : List Nat := [0, 0, 0, 4, 15, 31, 63, 63, 127, 511]
theorem laws_FnExactPutHold.tab11 : rtab .any (opsOf Try.f3 11) = laws_FnExactPutHold.T11 := by kernel_rfl
theorem laws_FnExactPutHold.bits11 : waitsOk laws_FnExactPutHold.T11.2 laws_FnExactPutHold.B11 = true := by kernel_rfl
def laws_FnExactPutHold.T31 : Bool × List (List Nat × List Nat) := (true, [([], []), ([0], [0]), ([], []), ([2, 1], [2]), ([], []), ([4, 3], [4]), ([1, 3, 5, 5], [1, 3, 5]), ([6], [6]), ([7], [7]), ([7], [7]), ([8, 6, 0, 1, 2, 3, 4, 5, 6, 7, 8], [8]), ([9, 10, 0, 1, 2, 3, 4, 5, 6, 7, 8, 9, 10], [9])])
def laws_FnExactPutHold.B31 : List Nat := [0, 1, 0, 7, 0, 31, 63, 127, 255, 255, 511, 2047]
theorem laws_FnExactPutHold.tab31 : rtab .any (opsOf Try.f3 31) = laws_FnExactPutHold.T31 := by kernel_rfl
theorem laws_FnExactPutHold.bits31 : waitsOk laws_FnExactPutHold.T31.2 laws_FnExactPutHold.B31 = true := by kernel_rfl
set_option maxHeartbeats 8000000 in
set_option maxRecDepth 100000 in
theorem laws_FnExactPutHold.calls (k : Nat) (a0_0 : Int) (a0_1 : Int) (A0_2 : Option Addr) (c0_2 : Nat) (l0_2 : List (S144)) (A1 : Option Addr) (c1 : Nat) (l1 : List (S27)) (a2_0 : Int) (a2_1 : Int) (a2_2 : Int) (r : Bool) (w : World) (hr0_2 : Kd.C k144 w A0_2 l0_2.length l0_2) (hc0_2 : l0_2.length ≤ c0_2) (hr1 : Kd.C k27 w A1 l1.length l1) (hc1 : l1.length ≤ c1) (hr_ : r = true) (h : laws_FnExactPutHold.f k a0_0 a0_1 l0_2 l1 a2_0 a2_1 a2_2 = some r) :
  Calls Try.prog 3 #[.agg #[.int .i64 a0_0, .int .i64 a0_1, .slice A0_2 l0_2.length c0_2], .slice A1 l1.length c1, .agg #[.int .i64 a2_0, .int .i64 a2_1, .int .i64 a2_2]] w fun e w' => e = .returned (.bool r) ∧ Below w.heap.size w w' := by
 subst hr_
 have hu24 := Try.underlying24
 have hu27 := Try.underlying27
 have hu35 := Try.underlying35
 have HR0_2 := Aside0.mk hr0_2
 have HC0_2 := Aside0.mk hc0_2
 clear hr0_2 hc0_2
 have HR1 := Aside0.mk hr1
 have HC1 := Aside0.mk hc1
 clear hr1 hc1
 have HB := Aside0.mk (Below.refl w.heap.size w)
 have H : ((laws_szDoc.f k a0_0 a0_1 l0_2 1048576).bind fun t402 => (if t402 < 0 then (some true) else ((laws_szHoldS.f l1 t402).bind fun t403 => (if t403 < 0 then (some true) else ((laws_toDoc.f k a0_0 a0_1 l0_2).bind fun bt404 => ((laws_toHoldS.f k l1).bind fun t409 => ((laws_toHold.f a2_0 a2_1 a2_2).bind fun bt412 => ((spec_PutHold.f k bt404.1 bt404.2.1 bt404.2.2 t409 bt412.1 bt412.2.1 bt412.2.2).bind fun bt415 => ((laws_toDoc.f k a0_0 a0_1 l0_2).bind fun bt419 => ((laws_toHoldS.f k l1).bind fun t425 => ((laws_toHold.f a2_0 a2_1 a2_2).bind fun bt428 => ((impl_PutHold.f k bt419.1 bt419.2.1 bt419.2.2 t425 bt428.1 bt428.2.1 bt428.2.2).bind fun bt431 => ((laws_eqHoldS.f k bt431.1 bt415.1).bind fun t435 => (if t435 = true then (laws_FnExactPutHold.j0 k l1 bt415.1 bt415.2 t425 bt431.1 bt431.2 (bt431.2 != bt415.2) a0_0 a0_1 l0_2 a2_0 a2_1 a2_2 bt419.1 bt419.2.1 bt419.2.2) else (laws_FnExactPutHold.j0 k l1 bt415.1 bt415.2 t425 bt431.1 bt431.2 true a0_0 a0_1 l0_2 a2_0 a2_1 a2_2 bt419.1 bt419.2.1 bt419.2.2))))))))))))))) = some true := h
 clear h
 obtain ⟨t402, A4, H⟩ := Xbi H
 (try dsimp only at H)
 have HC5 := Aside0.mk H
 clear H
 go_enter Try.func3, Try.ntmps3
 go_upto_if 23 with (first | ((with_reducible refine gate_dst (N := 3) rfl ?_); refine Xbox 3 #[.int .i64 a0_0, .int .i64 a0_1, .slice A0_2 l0_2.length c0_2] 24 ?_; intro gb400 hg w6 hbox hb; have BK400 := Aside0.mk (hbox); have GE400 := Xge hg Xi; replace HB := Aside0.mk (below_step Xi hb); clear hb hbox hg) | ((with_reducible refine gate_dst (N := 5) rfl ?_); refine Xbox 5 #[.int .i64 a2_0, .int .i64 a2_1, .int .i64 a2_2] 27 ?_; intro gb401 hg w7 hbox hb; have BK401 := Aside0.mk (hbox); have GE401 := Xge hg Xi; replace HB := Aside0.mk (below_step Xi hb); have NB400_401 := Xnb hg BK400; have NB401_400 := Xns NB400_401; replace BK400 := Xbb BK400 hb; clear hb hbox hg; have hnb8 := NB400_401.out; have hnc8 := NB401_400.out; obtain ⟨hcz9_0, hcz9_1, hcz9_2⟩ := Xc3 BK400; obtain ⟨hfz9_0, hfz9_1, hfz9_2⟩ := Xf3 BK400) | ((with_reducible refine gate_callee (f := 8) rfl ?_); refine Xgo 21 Try.func8 #[.agg #[.int .i64 a0_0, .int .i64 a0_1, .slice A0_2 l0_2.length c0_2], .int .i64 1048576] ?_; (with_reducible refine (laws_szDoc.calls k a0_0 a0_1 _ _ l0_2 1048576 t402 _ ?side1 ?side2 A4.out).mono ?_); (case side1 => exact Xc HR0_2); (case side2 => exact HC0_2.out); rintro e w10 ⟨rfl, hb⟩; refine ⟨_, rfl, ?_⟩; replace BK400 := Xbb BK400 hb; replace BK401 := Xbb BK401 hb; replace HB := Aside0.mk (below_step Xi hb); clear hb))
 have H := HC5.out
 clear HC5
 obtain ⟨c11b0, H⟩ | ⟨c11b0, H⟩ := Xit H
 ·(first | rw [c11b0] | (simp only [i64_w, i32_w]; rw [c11b0]) | skip)
  go_wp2
  go_ret
  exact ⟨Xe, Xi⟩
 ·(first | rw [c11b0] | (simp only [i64_w, i32_w]; rw [c11b0]) | skip)
  obtain ⟨t403, A12, H⟩ := Xbi H
  (try dsimp only at H)
  have HC13 := Aside0.mk H
  clear H
  go_upto_if 28 with (first | ((with_reducible refine gate_callee (f := 9) rfl ?_); refine Xgo 26 Try.func9 #[.slice A1 l1.length c1, .int .i64 t402] ?_; (with_reducible refine (laws_szHoldS.calls _ _ l1 t402 t403 _ ?side1 ?side2 A12.out).mono ?_); (case side1 => exact Xc HR1); (case side2 => exact HC1.out); rintro e w' ⟨rfl, ⟨nd, rfl⟩⟩; refine ⟨_, rfl, ?_⟩))
  (try (rw [drewN_self w10]; generalize hq_ : World.drewN w10 _ = w10; have n0_ : Aside0 (w10.heap[gb400]? = some (.cells #[.int .i64 a0_0, .int .i64 a0_1, .slice A0_2 l0_2.length c0_2] 24 (0, 0))) := ⟨by rw [← hq_]; exact BK400.out⟩; have n1_ : Aside0 (w10.heap[gb401]? = some (.cells #[.int .i64 a2_0, .int .i64 a2_1, .int .i64 a2_2] 27 (0, 0))) := ⟨by rw [← hq_]; exact BK401.out⟩; have n2_ : Aside0 (Below w.heap.size w w10) := ⟨by rw [← hq_]; exact Xi⟩; clear BK400 BK401 HB hq_; have BK400 := n0_; have BK401 := n1_; have HB := n2_; clear n0_ n1_ n2_))
  have H := HC13.out
  clear HC13
  obtain ⟨c14b0, H⟩ | ⟨c14b0, H⟩ := Xit H
  ·(first | rw [c14b0] | (simp only [i64_w, i32_w]; rw [c14b0]) | skip)
   go_wp2
   go_ret
   exact ⟨Xe, Xi⟩
  ·(first | rw [c14b0] | (simp only [i64_w, i32_w]; rw [c14b0]) | skip)
   replace H := Option.bind_eq_some_iff.mp H
   obtain ⟨⟨t404, t405, t406⟩, A150, H⟩ := H
   (try dsimp only at H)
   have A15 := Aside0.mk A150
   clear A150
   obtain ⟨t409, A16, H⟩ := Xbi H
   (try dsimp only at H)
   replace H := Option.bind_eq_some_iff.mp H
   obtain ⟨⟨t412, t413, t414⟩, A170, H⟩ := H
   (try dsimp only at H)
   have A17 := Aside0.mk A170
   clear A170
   replace H := Option.bind_eq_some_iff.mp H
   obtain ⟨⟨t415, t418⟩, A180, H⟩ := H
   (try dsimp only at H)
   have A18 := Aside0.mk A180
   clear A180
   replace H := Option.bind_eq_some_iff.mp H
   obtain ⟨⟨t419, t420, t421⟩, A190, H⟩ := H
   (try dsimp only at H)
   have A19 := Aside0.mk A190
   clear A190
   obtain ⟨t425, A20, H⟩ := Xbi H
   (try dsimp only at H)
   replace H := Option.bind_eq_some_iff.mp H
   obtain ⟨⟨t428, t429, t430⟩, A210, H⟩ := H
   (try dsimp only at H)
   have A21 := Aside0.mk A210
   clear A210
   replace H := Option.bind_eq_some_iff.mp H
   obtain ⟨⟨t431, t434⟩, A220, H⟩ := H
   (try dsimp only at H)
   have A22 := Aside0.mk A220
   clear A220
   have HC23 := Aside0.mk H
   clear H
   try go_wp2
   replace BK400 := Aside0.mk (blk_drew BK400.out)
   replace BK401 := Aside0.mk (blk_drew BK401.out)
   replace HB := Aside0.mk (below_drew1 HB.out)
   refine start_ (n := 12) (S := fun w' => w'.cell? ⟨gb400, 0, none⟩ = some (.int .i64 a0_0) ∧ w'.cell? ⟨gb400, 1, none⟩ = some (.int .i64 a0_1) ∧ w'.cell? ⟨gb400, 2, none⟩ = some (.slice A0_2 l0_2.length c0_2) ∧ w'.cell? ⟨gb401, 0, none⟩ = some (.int .i64 a2_0) ∧ w'.cell? ⟨gb401, 1, none⟩ = some (.int .i64 a2_1) ∧ w'.cell? ⟨gb401, 2, none⟩ = some (.int .i64 a2_2)) (ds := []) #[false, false, false, false, false, false, false, false, false, false, false, false] (by kernel_rfl) rfl rfl ⟨(blk_cell BK400.out 0).trans rfl, (blk_cell BK400.out 1).trans rfl, (blk_cell BK400.out 2).trans rfl, (blk_cell BK401.out 0).trans rfl, (blk_cell BK401.out 1).trans rfl, (blk_cell BK401.out 2).trans rfl⟩ (fun hHeld => ?_); refine with_tabW laws_FnExactPutHold.tab8 laws_FnExactPutHold.bits8 (fun HT_ HW_ => ?_)
   generalize w10.drew = w24 at BK400 BK401 HB hHeld ⊢
   refine Xpu 2 32 (XW.bs 12 4) HT_.out ?_
   refine Xta 0 30 (XW.bs 12 5) HT_.out HW_.out hHeld ?_
   refine Xta 4 34 (XW.bs 12 21) HT_.out HW_.out hHeld ?_
   refine one_ (i := 1) (N := some 31) (XW.bs 12 23) rfl rfl (one_of HT_.out (by kernel_rfl)) (by decide) (fun K hK => ?_)
   refine goes_ Try.func11 (by kernel_rfl) rfl #[.agg #[.int .i64 a0_0, .int .i64 a0_1, .slice A0_2 l0_2.length c0_2]] (by rfl) rfl rfl (by (try simp only [List.map_toArray, List.map_cons, List.map_nil]); first | done | rfl | (simp only [List.length_drop, List.length_take]; rfl)) ?_
   with_reducible refine (laws_toDoc.calls k a0_0 a0_1 _ _ l0_2 t404 t405 t406 _ ?side1 ?side2 A15.out).mono ?_
   (case side1 => exact Xc HR0_2)
   (case side2 => exact HC0_2.out)
   rintro e w25 ⟨v407, rfl, ho0, hb⟩
   refine ⟨_, rfl, ?_⟩
   have HO408 := Aside0.mk (Kd.S_lower ho0 (below_size Xi))
   replace BK400 := Xbb BK400 hb
   replace BK401 := Xbb BK401 hb
   replace HB := Aside0.mk (below_step Xi hb)
   (try clear hb)
   (try clear hb2)
   (try clear hk)
   (try clear hi)
   (try clear ho0)
   refine hK.out _ _ ⟨(blk_cell BK400.out 0).trans rfl, (blk_cell BK400.out 1).trans rfl, (blk_cell BK400.out 2).trans rfl, (blk_cell BK401.out 0).trans rfl, (blk_cell BK401.out 1).trans rfl, (blk_cell BK401.out 2).trans rfl⟩ (fun hHeld => ?_)
   clear hK K
   refine Xno ?_
   refine one_ (i := 3) (N := some 33) (XW.bs 12 31) rfl rfl (one_of HT_.out (by kernel_rfl)) (by decide) (fun K hK => ?_)
   refine goes_ Try.func12 (by kernel_rfl) rfl #[.slice A1 l1.length c1] (by rfl) rfl rfl (by (try simp only [List.map_toArray, List.map_cons, List.map_nil]); first | done | rfl | (simp only [List.length_drop, List.length_take]; rfl)) ?_
   with_reducible refine (laws_toHoldS.calls k _ _ l1 t409 _ ?side1 ?side2 A16.out).mono ?_
   (case side1 => exact Xc HR1)
   (case side2 => exact HC1.out)
   rintro e w26 ⟨v410, rfl, ho0, hb⟩
   refine ⟨_, rfl, ?_⟩
   replace HO408 := Aside0.mk (Kd.S_below (Xq HO408) hb)
   have HO411 := Aside0.mk (Kd.R_lower ho0 (below_size Xi))
   replace BK400 := Xbb BK400 hb
   replace BK401 := Xbb BK401 hb
   replace HB := Aside0.mk (below_step Xi hb)
   (try clear hb)
   (try clear hb2)
   (try clear hk)
   (try clear hi)
   (try clear ho0)
   refine hK.out _ _ ⟨(blk_cell BK400.out 0).trans rfl, (blk_cell BK400.out 1).trans rfl, (blk_cell BK400.out 2).trans rfl, (blk_cell BK401.out 0).trans rfl, (blk_cell BK401.out 1).trans rfl, (blk_cell BK401.out 2).trans rfl⟩ (fun hHeld => ?_)
   clear hK K
   refine Xno ?_
   refine one_ (i := 5) (N := some 35) (XW.bs 12 63) rfl rfl (one_of HT_.out (by kernel_rfl)) (by decide) (fun K hK => ?_)
   refine goes_ Try.func13 (by kernel_rfl) rfl #[.agg #[.int .i64 a2_0, .int .i64 a2_1, .int .i64 a2_2]] (by rfl) rfl rfl (by (try simp only [List.map_toArray, List.map_cons, List.map_nil]); first | done | rfl | (simp only [List.length_drop, List.length_take]; rfl)) ?_
   with_reducible refine (laws_toHold.calls a2_0 a2_1 a2_2 t412 t413 t414 _ A17.out).mono ?_
   rintro e w27 ⟨rfl, hb⟩
   refine ⟨_, rfl, ?_⟩
   replace HO408 := Aside0.mk (Kd.S_below (Xq HO408) hb)
   replace HO411 := Aside0.mk (Kd.R_below (Xq HO411) hb)
   replace BK400 := Xbb BK400 hb
   replace BK401 := Xbb BK401 hb
   replace HB := Aside0.mk (below_step Xi hb)
   (try clear hb)
   (try clear hb2)
   (try clear hk)
   (try clear hi)
   obtain ⟨Ao28, co28, eo28⟩ := Kd.S_slice HO408.out
   (first | subst eo28 | (injection eo28 with f1_ f2_ f3_; have f4_ := f1_.symm; have f5_ := f3_.symm; clear f1_ f2_ f3_; subst f4_; subst f5_))
   obtain ⟨Ao29, co29, eo29⟩ := Kd.R_slice HO411.out
   (first | subst eo29 | (injection eo29 with f1_ f2_ f3_; have f4_ := f1_.symm; have f5_ := f3_.symm; clear f1_ f2_ f3_; subst f4_; subst f5_))
   refine hK.out _ _ ⟨(blk_cell BK400.out 0).trans rfl, (blk_cell BK400.out 1).trans rfl, (blk_cell BK400.out 2).trans rfl, (blk_cell BK401.out 0).trans rfl, (blk_cell BK401.out 1).trans rfl, (blk_cell BK401.out 2).trans rfl⟩ (fun hHeld => ?_)
   clear hK K
   refine Xno ?_
   refine one_ (i := 6) (N := some 36) (XW.bs 12 127) rfl rfl (one_of HT_.out (by kernel_rfl)) (by decide) (fun K hK => ?_)
   refine goes_ Try.func10 (by kernel_rfl) rfl #[.agg #[.int .i64 t404, .int .i64 t405, .slice Ao28 t406.length co28], .slice Ao29 t409.length co29, .agg #[.int .i64 t412, .int .i64 t413, .int .i64 t414]] (by rfl) rfl rfl (by (try simp only [List.map_toArray, List.map_cons, List.map_nil]); first | done | rfl | (simp only [List.length_drop, List.length_take]; rfl)) ?_
   with_reducible refine (spec_PutHold.calls k t404 t405 _ _ t406 _ _ t409 t412 t413 t414 t415 t418 _ ?side1 ?side2 ?side3 ?side4 A18.out).mono ?_
   (case side1 => repeat (first | exact (Kd.S_reads' HO408.out).2.2 | (with_reducible first | refine Kd.C_alloc ?_ _ | refine Kd.C_drewN ?_ _ | refine Kd.C_drew ?_)))
   (case side2 => exact (Kd.S_reads' HO408.out).2.1)
   (case side3 => repeat (first | exact (Kd.R_reads' HO411.out).2.2 | (with_reducible first | refine Kd.C_alloc ?_ _ | refine Kd.C_drewN ?_ _ | refine Kd.C_drew ?_)))
   (case side4 => exact (Kd.R_reads' HO411.out).2.1)
   rintro e w30 ⟨v416, rfl, ho0, hb⟩
   refine ⟨_, rfl, ?_⟩
   replace HO408 := Aside0.mk (Kd.S_below (Xq HO408) hb)
   have HO417 := Aside0.mk (Kd.R_lower (Kd.R_new' ho0 (Kd.R_lt (Xq HO411))) (below_size Xi))
   replace HO411 := Aside0.mk (Kd.R_elder' (Xq HO411) (Kd.R_base ho0) hb)
   replace BK400 := Xbb BK400 hb
   replace BK401 := Xbb BK401 hb
   replace HB := Aside0.mk (below_step Xi hb)
   (try clear hb)
   (try clear hb2)
   (try clear hk)
   (try clear hi)
   (try clear ho0)
   refine hK.out _ _ ⟨(blk_cell BK400.out 0).trans rfl, (blk_cell BK400.out 1).trans rfl, (blk_cell BK400.out 2).trans rfl, (blk_cell BK401.out 0).trans rfl, (blk_cell BK401.out 1).trans rfl, (blk_cell BK401.out 2).trans rfl⟩ (fun hHeld => ?_)
   clear hK K
   refine Xno ?_
   refine Xpu 7 29 (XW.bs 12 255) HT_.out ?_
   refine Xpu 8 37 (XW.bs 12 511) HT_.out ?_
   refine Xpu 9 38 (XW.bs 12 1023) HT_.out ?_
   refine Xpu 10 8 (XW.bs 12 2047) HT_.out ?_
   refine Xpu 11 9 (XW.bs 12 4095) HT_.out ?_
   refine done_ (done_of HT_.out (by kernel_rfl)) ?_
   have hnb31 := NB400_401.out
   have hnc31 := NB401_400.out
   obtain ⟨hcz32_0, hcz32_1, hcz32_2⟩ := Xc3 BK400
   obtain ⟨hfz32_0, hfz32_1, hfz32_2⟩ := Xf3 BK400
   try go_wp2_with (first | ((with_reducible refine gate_callee (f := 11) rfl ?_); refine Xgo 40 Try.func11 #[.agg #[.int .i64 a0_0, .int .i64 a0_1, .slice A0_2 l0_2.length c0_2]] ?_; (with_reducible refine (laws_toDoc.calls k a0_0 a0_1 _ _ l0_2 t419 t420 t421 _ ?side1 ?side2 A19.out).mono ?_); (case side1 => exact Xc HR0_2); (case side2 => exact HC0_2.out); rintro e w33 ⟨v422, rfl, ho0, hb⟩; refine ⟨_, rfl, ?_⟩; replace HO411 := Aside0.mk (Kd.R_below (Xq HO411) hb); replace HO417 := Aside0.mk (Kd.R_below (Xq HO417) hb); have HO423 := Aside0.mk (Kd.S_lower (Kd.S_new' ho0 (Kd.S_lt (Xq HO408))) (below_size Xi)); replace HO408 := Aside0.mk (Kd.S_elder' (Xq HO408) (Kd.S_base ho0) hb); replace BK400 := Xbb BK400 hb; replace BK401 := Xbb BK401 hb; replace HB := Aside0.mk (below_step Xi hb); clear hb; (try clear ho0)) | ((with_reducible refine gate_dst (N := 10) rfl ?_); refine Xbox 10 #[.int .i64 0, .int .i64 0, .slice none 0 0] 35 ?_; intro gb424 hg w34 hbox hb; replace HO408 := Aside0.mk (Kd.S_below (Xq HO408) hb); replace HO411 := Aside0.mk (Kd.R_below (Xq HO411) hb); replace HO417 := Aside0.mk (Kd.R_below (Xq HO417) hb); replace HO423 := Aside0.mk (Kd.S_below (Xq HO423) hb); have BK424 := Aside0.mk (hbox); have GE424 := Xge hg Xi; replace HB := Aside0.mk (below_step Xi hb); have NB400_424 := Xnb hg BK400; have NB424_400 := Xns NB400_424; replace BK400 := Xbb BK400 hb; have NB401_424 := Xnb hg BK401; have NB424_401 := Xns NB401_424; replace BK401 := Xbb BK401 hb; clear hb hbox hg; have hnb35 := NB424_400.out; have hnc35 := NB400_424.out; have hnb36 := NB424_401.out; have hnc36 := NB401_424.out; obtain ⟨hcz37_0, hcz37_1, hcz37_2⟩ := Xc3 BK424; obtain ⟨hfz37_0, hfz37_1, hfz37_2⟩ := Xf3 BK424; obtain ⟨Ao38, co38, eo38⟩ := Kd.S_slice HO423.out; subst eo38) | ((with_reducible refine gate_store (t := 35) (p := 10) rfl ?_); refine store_event (t := 35) (p := 10) (v := ?vo_w39) (w1 := (((w34.setCell ⟨gb424, 0, none⟩ (.int .i64 t419)).setCell ⟨gb424, 1, none⟩ (.int .i64 t420)).setCell ⟨gb424, 2, none⟩ (.slice Ao38 t421.length co38))) ?hg ?ho ?hn ?hr ?_; (case ho => rfl); (case hg => rfl); (case hn => rfl); (case hr => first | (go_simp; done) | (go_simp; rfl)); intro w39 hw; have n0_ : Aside0 (Kd.S k64 64 w39 w.heap.size (fun k_ => some k_ ≠ (.slice Ao38 t421.length co38 : Value).ownBlock) (.slice Ao28 t406.length co28) t406) := ⟨(by rw [hw]; exact (by (with_reducible repeat (first | apply Kd.S_alloc | apply Kd.S_drewN | apply Kd.S_drew)); exact Kd.S_mono (Kd.S_far (p := ⟨gb424, 2, none⟩) (Kd.S_far (p := ⟨gb424, 1, none⟩) (Kd.S_far (p := ⟨gb424, 0, none⟩) (Kd.S_types HO408.out BK424.out (by decide)) (fun _ hk => hk.2) (.int .i64 t419)) (fun _ hk => hk.2) (.int .i64 t420)) (fun _ hk => hk.2) (.slice Ao38 t421.length co38)) (fun _ hk => hk.1.2)))⟩; have n1_ : Aside0 (Kd.R k38 38 w39 w.heap.size (fun k_ => some k_ ≠ (v416 : Value).ownBlock) (.slice Ao29 t409.length co29) t409) := ⟨(by rw [hw]; exact (by (with_reducible repeat (first | apply Kd.R_alloc | apply Kd.R_drewN | apply Kd.R_drew)); exact Kd.R_mono (Kd.R_far (p := ⟨gb424, 2, none⟩) (Kd.R_far (p := ⟨gb424, 1, none⟩) (Kd.R_far (p := ⟨gb424, 0, none⟩) (Kd.R_types HO411.out BK424.out (by decide)) (fun _ hk => hk.2) (.int .i64 t419)) (fun _ hk => hk.2) (.int .i64 t420)) (fun _ hk => hk.2) (.slice Ao38 t421.length co38)) (fun _ hk => hk.1.2)))⟩; have n2_ : Aside0 (Kd.R k38 38 w39 w.heap.size (fun k_ => some k_ ≠ (.slice Ao29 t409.length co29 : Value).ownBlock) v416 t415) := ⟨(by rw [hw]; exact (by (with_reducible repeat (first | apply Kd.R_alloc | apply Kd.R_drewN | apply Kd.R_drew)); exact Kd.R_mono (Kd.R_far (p := ⟨gb424, 2, none⟩) (Kd.R_far (p := ⟨gb424, 1, none⟩) (Kd.R_far (p := ⟨gb424, 0, none⟩) (Kd.R_types HO417.out BK424.out (by decide)) (fun _ hk => hk.2) (.int .i64 t419)) (fun _ hk => hk.2) (.int .i64 t420)) (fun _ hk => hk.2) (.slice Ao38 t421.length co38)) (fun _ hk => hk.1.2)))⟩; have n3_ : Aside0 (Kd.S k64 64 w39 w.heap.size (fun k_ => some k_ ≠ (.slice Ao28 t406.length co28 : Value).ownBlock) (.slice Ao38 t421.length co38) t421) := ⟨(by rw [hw]; exact (by (with_reducible repeat (first | apply Kd.S_alloc | apply Kd.S_drewN | apply Kd.S_drew)); exact Kd.S_mono (Kd.S_far (p := ⟨gb424, 2, none⟩) (Kd.S_far (p := ⟨gb424, 1, none⟩) (Kd.S_far (p := ⟨gb424, 0, none⟩) (Kd.S_types HO423.out BK424.out (by decide)) (fun _ hk => hk.2) (.int .i64 t419)) (fun _ hk => hk.2) (.int .i64 t420)) (fun _ hk => hk.2) (.slice Ao38 t421.length co38)) (fun _ hk => hk.1.2)))⟩; have n4_ : Aside0 (w39.heap[gb400]? = some (.cells #[.int .i64 a0_0, .int .i64 a0_1, .slice A0_2 l0_2.length c0_2] 24 (0, 0))) := ⟨(by rw [hw]; exact (by (with_reducible repeat (first | refine blk_drewN ?_ _ | refine blk_drew ?_ | refine blk_alloc ?_ _)); refine blk_far ?_ NB400_424.out _; (with_reducible repeat (first | refine blk_drewN ?_ _ | refine blk_drew ?_ | refine blk_alloc ?_ _)); refine blk_far ?_ NB400_424.out _; (with_reducible repeat (first | refine blk_drewN ?_ _ | refine blk_drew ?_ | refine blk_alloc ?_ _)); refine blk_far ?_ NB400_424.out _; (with_reducible repeat (first | refine blk_drewN ?_ _ | refine blk_drew ?_ | refine blk_alloc ?_ _)); exact BK400.out))⟩; have n5_ : Aside0 (w39.heap[gb401]? = some (.cells #[.int .i64 a2_0, .int .i64 a2_1, .int .i64 a2_2] 27 (0, 0))) := ⟨(by rw [hw]; exact (by (with_reducible repeat (first | refine blk_drewN ?_ _ | refine blk_drew ?_ | refine blk_alloc ?_ _)); refine blk_far ?_ NB401_424.out _; (with_reducible repeat (first | refine blk_drewN ?_ _ | refine blk_drew ?_ | refine blk_alloc ?_ _)); refine blk_far ?_ NB401_424.out _; (with_reducible repeat (first | refine blk_drewN ?_ _ | refine blk_drew ?_ | refine blk_alloc ?_ _)); refine blk_far ?_ NB401_424.out _; (with_reducible repeat (first | refine blk_drewN ?_ _ | refine blk_drew ?_ | refine blk_alloc ?_ _)); exact BK401.out))⟩; have n6_ : Aside0 (w39.heap[gb424]? = some (.cells #[.int .i64 t419, .int .i64 t420, .slice Ao38 t421.length co38] 35 (0, 0))) := ⟨(by rw [hw]; exact (by (with_reducible repeat (first | refine blk_drewN ?_ _ | refine blk_drew ?_ | refine blk_alloc ?_ _)); refine blk_put (cs := #[.int .i64 t419, .int .i64 t420, .slice none 0 0]) ?_ 2 _ rfl; (with_reducible repeat (first | refine blk_drewN ?_ _ | refine blk_drew ?_ | refine blk_alloc ?_ _)); refine blk_put (cs := #[.int .i64 t419, .int .i64 0, .slice none 0 0]) ?_ 1 _ rfl; (with_reducible repeat (first | refine blk_drewN ?_ _ | refine blk_drew ?_ | refine blk_alloc ?_ _)); refine blk_put (cs := #[.int .i64 0, .int .i64 0, .slice none 0 0]) ?_ 0 _ rfl; (with_reducible repeat (first | refine blk_drewN ?_ _ | refine blk_drew ?_ | refine blk_alloc ?_ _)); exact BK424.out))⟩; have n7_ : Aside0 (Below w.heap.size w w39) := ⟨(by rw [hw]; exact Xi)⟩; clear hw; clear HO408; clear HO411; clear HO417; clear HO423; clear BK400; clear BK401; clear BK424; clear HB; have HO408 := n0_; have HO411 := n1_; have HO417 := n2_; have HO423 := n3_; have BK400 := n4_; have BK401 := n5_; have BK424 := n6_; have HB := n7_; clear n0_ n1_ n2_ n3_ n4_ n5_ n6_ n7_) | ((with_reducible refine gate_callee (f := 12) rfl ?_); refine Xgo 42 Try.func12 #[.slice A1 l1.length c1] ?_; (with_reducible refine (laws_toHoldS.calls k _ _ l1 t425 _ ?side1 ?side2 A20.out).mono ?_); (case side1 => exact Xc HR1); (case side2 => exact HC1.out); rintro e w40 ⟨v426, rfl, ho0, hb⟩; refine ⟨_, rfl, ?_⟩; replace HO408 := Aside0.mk (Kd.S_below (Xq HO408) hb); replace HO423 := Aside0.mk (Kd.S_below (Xq HO423) hb); have HO427 := Aside0.mk (Kd.R_lower (Kd.R_new' (Kd.R_new' ho0 (Kd.R_lt (Xq HO411))) (Kd.R_lt (Xq HO417))) (below_size Xi)); replace HO411 := Aside0.mk (Kd.R_elder' (Xq HO411) (Kd.R_base ho0) hb); replace HO417 := Aside0.mk (Kd.R_elder' (Xq HO417) (Kd.R_base ho0) hb); replace BK400 := Xbb BK400 hb; replace BK401 := Xbb BK401 hb; replace BK424 := Xbb BK424 hb; replace HB := Aside0.mk (below_step Xi hb); clear hb; (try clear ho0)))
   replace HO408 := Aside0.mk (Kd.S_drew HO408.out)
   replace HO411 := Aside0.mk (Kd.R_drew HO411.out)
   replace HO417 := Aside0.mk (Kd.R_drew HO417.out)
   replace HO423 := Aside0.mk (Kd.S_drew HO423.out)
   replace HO427 := Aside0.mk (Kd.R_drew HO427.out)
   replace BK400 := Aside0.mk (blk_drew BK400.out)
   replace BK401 := Aside0.mk (blk_drew BK401.out)
   replace BK424 := Aside0.mk (blk_drew BK424.out)
   replace HB := Aside0.mk (below_drew1 HB.out)
   refine start_ (n := 10) (S := fun w' => w'.cell? ⟨gb424, 0, none⟩ = some (.int .i64 t419) ∧ w'.cell? ⟨gb424, 1, none⟩ = some (.int .i64 t420) ∧ w'.cell? ⟨gb424, 2, none⟩ = some (.slice Ao38 t421.length co38) ∧ w'.cell? ⟨gb401, 0, none⟩ = some (.int .i64 a2_0) ∧ w'.cell? ⟨gb401, 1, none⟩ = some (.int .i64 a2_1) ∧ w'.cell? ⟨gb401, 2, none⟩ = some (.int .i64 a2_2)) (ds := []) #[false, false, false, false, false, false, false, false, false, false] (by kernel_rfl) rfl rfl ⟨(blk_cell BK424.out 0).trans rfl, (blk_cell BK424.out 1).trans rfl, (blk_cell BK424.out 2).trans rfl, (blk_cell BK401.out 0).trans rfl, (blk_cell BK401.out 1).trans rfl, (blk_cell BK401.out 2).trans rfl⟩ (fun hHeld => ?_); refine with_tabW laws_FnExactPutHold.tab11 laws_FnExactPutHold.bits11 (fun HT_ HW_ => ?_)
   generalize w40.drew = w41 at HO408 HO411 HO417 HO423 HO427 BK400 BK401 BK424 HB hHeld ⊢
   refine Xpu 1 45 (XW.bs 10 2) HT_.out ?_
   refine Xta 0 44 (XW.bs 10 3) HT_.out HW_.out hHeld ?_
   refine Xta 2 46 (XW.bs 10 7) HT_.out HW_.out hHeld ?_
   refine one_ (i := 3) (N := some 47) (XW.bs 10 15) rfl rfl (one_of HT_.out (by kernel_rfl)) (by decide) (fun K hK => ?_)
   refine goes_ Try.func13 (by kernel_rfl) rfl #[.agg #[.int .i64 a2_0, .int .i64 a2_1, .int .i64 a2_2]] (by rfl) rfl rfl (by (try simp only [List.map_toArray, List.map_cons, List.map_nil]); first | done | rfl | (simp only [List.length_drop, List.length_take]; rfl)) ?_
   with_reducible refine (laws_toHold.calls a2_0 a2_1 a2_2 t428 t429 t430 _ A21.out).mono ?_
   rintro e w42 ⟨rfl, hb⟩
   refine ⟨_, rfl, ?_⟩
   replace HO408 := Aside0.mk (Kd.S_below (Xq HO408) hb)
   replace HO411 := Aside0.mk (Kd.R_below (Xq HO411) hb)
   replace HO417 := Aside0.mk (Kd.R_below (Xq HO417) hb)
   replace HO423 := Aside0.mk (Kd.S_below (Xq HO423) hb)
   replace HO427 := Aside0.mk (Kd.R_below (Xq HO427) hb)
   replace BK400 := Xbb BK400 hb
   replace BK401 := Xbb BK401 hb
   replace BK424 := Xbb BK424 hb
   replace HB := Aside0.mk (below_step Xi hb)
   (try clear hb)
   (try clear hb2)
   (try clear hk)
   (try clear hi)
   obtain ⟨Ao43, co43, eo43⟩ := Kd.R_slice HO427.out
   (first | subst eo43 | (injection eo43 with f1_ f2_ f3_; have f4_ := f1_.symm; have f5_ := f3_.symm; clear f1_ f2_ f3_; subst f4_; subst f5_))
   refine hK.out _ _ ⟨(blk_cell BK424.out 0).trans rfl, (blk_cell BK424.out 1).trans rfl, (blk_cell BK424.out 2).trans rfl, (blk_cell BK401.out 0).trans rfl, (blk_cell BK401.out 1).trans rfl, (blk_cell BK401.out 2).trans rfl⟩ (fun hHeld => ?_)
   clear hK K
   refine Xno ?_
   refine one_ (i := 4) (N := some 48) (XW.bs 10 31) rfl rfl (one_of HT_.out (by kernel_rfl)) (by decide) (fun K hK => ?_)
   refine goes_ Try.func14 (by kernel_rfl) rfl #[.agg #[.int .i64 t419, .int .i64 t420, .slice Ao38 t421.length co38], .slice Ao43 t425.length co43, .agg #[.int .i64 t428, .int .i64 t429, .int .i64 t430]] (by rfl) rfl rfl (by (try simp only [List.map_toArray, List.map_cons, List.map_nil]); first | done | rfl | (simp only [List.length_drop, List.length_take]; rfl)) ?_
   with_reducible refine (impl_PutHold.calls k t419 t420 _ _ t421 _ _ t425 t428 t429 t430 t431 t434 _ ?side1 ?side2 ?side3 ?side4 A22.out).mono ?_
   (case side1 => repeat (first | exact (Kd.S_reads' HO423.out).2.2 | (with_reducible first | refine Kd.C_alloc ?_ _ | refine Kd.C_drewN ?_ _ | refine Kd.C_drew ?_)))
   (case side2 => exact (Kd.S_reads' HO423.out).2.1)
   (case side3 => repeat (first | exact (Kd.R_reads' HO427.out).2.2 | (with_reducible first | refine Kd.C_alloc ?_ _ | refine Kd.C_drewN ?_ _ | refine Kd.C_drew ?_)))
   (case side4 => exact (Kd.R_reads' HO427.out).2.1)
   rintro e w44 ⟨v432, rfl, ho0, hb⟩
   refine ⟨_, rfl, ?_⟩
   replace HO408 := Aside0.mk (Kd.S_below (Xq HO408) hb)
   replace HO423 := Aside0.mk (Kd.S_below (Xq HO423) hb)
   have HO433 := Aside0.mk (Kd.R_lower (Kd.R_new' (Kd.R_new' (Kd.R_new' ho0 (Kd.R_lt (Xq HO411))) (Kd.R_lt (Xq HO417))) (Kd.R_lt (Xq HO427))) (below_size Xi))
   replace HO411 := Aside0.mk (Kd.R_elder' (Xq HO411) (Kd.R_base ho0) hb)
   replace HO417 := Aside0.mk (Kd.R_elder' (Xq HO417) (Kd.R_base ho0) hb)
   replace HO427 := Aside0.mk (Kd.R_elder' (Xq HO427) (Kd.R_base ho0) hb)
   replace BK400 := Xbb BK400 hb
   replace BK401 := Xbb BK401 hb
   replace BK424 := Xbb BK424 hb
   replace HB := Aside0.mk (below_step Xi hb)
   (try clear hb)
   (try clear hb2)
   (try clear hk)
   (try clear hi)
   (try clear ho0)
   refine hK.out _ _ ⟨(blk_cell BK424.out 0).trans rfl, (blk_cell BK424.out 1).trans rfl, (blk_cell BK424.out 2).trans rfl, (blk_cell BK401.out 0).trans rfl, (blk_cell BK401.out 1).trans rfl, (blk_cell BK401.out 2).trans rfl⟩ (fun hHeld => ?_)
   clear hK K
   refine Xno ?_
   refine Xpu 5 43 (XW.bs 10 63) HT_.out ?_
   refine Xpu 6 49 (XW.bs 10 127) HT_.out ?_
   refine Xpu 7 50 (XW.bs 10 255) HT_.out ?_
   refine Xpu 8 12 (XW.bs 10 511) HT_.out ?_
   refine Xpu 9 13 (XW.bs 10 1023) HT_.out ?_
   refine done_ (done_of HT_.out (by kernel_rfl)) ?_
   go_upto_region 12 with (fail)
   go_cut [59] (fun v59 wc => ∃ (kq : Nat) (x59_22 : Bool), v59 = .bool x59_22 ∧ Aside0 (laws_FnExactPutHold.j0 kq l1 t415 t418 t425 t431 t434 x59_22 a0_0 a0_1 l0_2 a2_0 a2_1 a2_2 t419 t420 t421 = some true) ∧ Aside0 (kq ≤ k) ∧ Aside0 (Kd.R k38 38 wc w.heap.size (fun k_ => some k_ ≠ ((.slice Ao43 t425.length co43) : Value).ownBlock ∧ some k_ ≠ (v432 : Value).ownBlock) v416 t415) ∧ Aside0 (Kd.R k38 38 wc w.heap.size (fun k_ => some k_ ≠ (v416 : Value).ownBlock ∧ some k_ ≠ (v432 : Value).ownBlock) (.slice Ao43 t425.length co43) t425) ∧ Aside0 (Kd.R k38 38 wc w.heap.size (fun k_ => some k_ ≠ (v416 : Value).ownBlock ∧ some k_ ≠ ((.slice Ao43 t425.length co43) : Value).ownBlock) v432 t431) ∧ Aside0 (Kd.S k64 64 wc w.heap.size (fun _ => True) (.slice Ao38 t421.length co38) t421) ∧ Aside0 (wc.heap[gb400]? = some (.cells #[.int .i64 a0_0, .int .i64 a0_1, (.slice A0_2 l0_2.length c0_2)] 24 (0, 0))) ∧ Aside0 (wc.heap[gb401]? = some (.cells #[.int .i64 a2_0, .int .i64 a2_1, .int .i64 a2_2] 27 (0, 0))) ∧ Aside0 (wc.heap[gb424]? = some (.cells #[.int .i64 t419, .int .i64 t420, (.slice Ao38 t421.length co38)] 35 (0, 0))) ∧ Aside0 (Below w.heap.size w wc))
   case first =>
    have H := HC23.out
    clear HC23
    obtain ⟨t435, A45, H⟩ := Xbi H
    (try dsimp only at H)
    by_cases c46 : t435 = true
    ·subst c46
     (first | rw [if_pos rfl] at H | skip)
     have H' := Aside0.mk H
     clear H
     obtain ⟨Ao47, co47, eo47⟩ := Kd.R_slice HO433.out
     subst eo47
     obtain ⟨Ao48, co48, eo48⟩ := Kd.R_slice HO417.out
     subst eo48
     go_wp2_with (first | ((with_reducible refine gate_callee (f := 15) rfl ?_); refine Xgo 53 Try.func15 #[.slice Ao47 t431.length co47, .slice Ao48 t415.length co48] ?_; (with_reducible refine (laws_eqHoldS.calls k _ _ t431 _ _ t415 true _ ?side1 ?side2 ?side3 ?side4 A45.out).mono ?_); (case side1 => repeat (first | exact (Kd.R_reads' HO433.out).2.2 | (with_reducible first | refine Kd.C_alloc ?_ _ | refine Kd.C_drewN ?_ _ | refine Kd.C_drew ?_))); (case side2 => exact (Kd.R_reads' HO433.out).2.1); (case side3 => repeat (first | exact (Kd.R_reads' HO417.out).2.2 | (with_reducible first | refine Kd.C_alloc ?_ _ | refine Kd.C_drewN ?_ _ | refine Kd.C_drew ?_))); (case side4 => exact (Kd.R_reads' HO417.out).2.1); rintro e w49 ⟨rfl, hb⟩; refine ⟨_, rfl, ?_⟩; replace HO408 := Aside0.mk (Kd.S_below (Xq HO408) hb); replace HO411 := Aside0.mk (Kd.R_below (Xq HO411) hb); replace HO417 := Aside0.mk (Kd.R_below (Xq HO417) hb); replace HO423 := Aside0.mk (Kd.S_below (Xq HO423) hb); replace HO427 := Aside0.mk (Kd.R_below (Xq HO427) hb); replace HO433 := Aside0.mk (Kd.R_below (Xq HO433) hb); replace BK400 := Xbb BK400 hb; replace BK401 := Xbb BK401 hb; replace BK424 := Xbb BK424 hb; replace HB := Aside0.mk (below_step Xi hb); clear hb))
     go_meet
     case rel => exact ⟨_, ((t434 != t418)), Xr, H', Xko, ⟨by (with_reducible repeat (first | apply Kd.R_alloc | apply Kd.R_drewN | apply Kd.R_drew)); exact Kd.R_mono HO417.out (fun _ hk => ⟨hk.1.2, hk.2⟩)⟩, ⟨by (with_reducible repeat (first | apply Kd.R_alloc | apply Kd.R_drewN | apply Kd.R_drew)); exact Kd.R_mono HO427.out (fun _ hk => ⟨hk.1.2, hk.2⟩)⟩, ⟨by (with_reducible repeat (first | apply Kd.R_alloc | apply Kd.R_drewN | apply Kd.R_drew)); exact Kd.R_mono HO433.out (fun _ hk => ⟨hk.1.2, hk.2⟩)⟩, ⟨by (with_reducible repeat (first | apply Kd.S_alloc | apply Kd.S_drewN | apply Kd.S_drew)); exact Kd.S_mono HO423.out (fun _ hk => trivial)⟩, BK400, BK401, BK424, ⟨Xi⟩⟩
    ·replace c46 := Bool.eq_false_iff.mpr c46
     subst c46
     (first | rw [if_neg (show ¬ (false = true) by decide)] at H | skip)
     have H' := Aside0.mk H
     clear H
     obtain ⟨Ao50, co50, eo50⟩ := Kd.R_slice HO433.out
     subst eo50
     obtain ⟨Ao51, co51, eo51⟩ := Kd.R_slice HO417.out
     subst eo51
     go_wp2_with (first | ((with_reducible refine gate_callee (f := 15) rfl ?_); refine Xgo 53 Try.func15 #[.slice Ao50 t431.length co50, .slice Ao51 t415.length co51] ?_; (with_reducible refine (laws_eqHoldS.calls k _ _ t431 _ _ t415 false _ ?side1 ?side2 ?side3 ?side4 A45.out).mono ?_); (case side1 => repeat (first | exact (Kd.R_reads' HO433.out).2.2 | (with_reducible first | refine Kd.C_alloc ?_ _ | refine Kd.C_drewN ?_ _ | refine Kd.C_drew ?_))); (case side2 => exact (Kd.R_reads' HO433.out).2.1); (case side3 => repeat (first | exact (Kd.R_reads' HO417.out).2.2 | (with_reducible first | refine Kd.C_alloc ?_ _ | refine Kd.C_drewN ?_ _ | refine Kd.C_drew ?_))); (case side4 => exact (Kd.R_reads' HO417.out).2.1); rintro e w52 ⟨rfl, hb⟩; refine ⟨_, rfl, ?_⟩; replace HO408 := Aside0.mk (Kd.S_below (Xq HO408) hb); replace HO411 := Aside0.mk (Kd.R_below (Xq HO411) hb); replace HO417 := Aside0.mk (Kd.R_below (Xq HO417) hb); replace HO423 := Aside0.mk (Kd.S_below (Xq HO423) hb); replace HO427 := Aside0.mk (Kd.R_below (Xq HO427) hb); replace HO433 := Aside0.mk (Kd.R_below (Xq HO433) hb); replace BK400 := Xbb BK400 hb; replace BK401 := Xbb BK401 hb; replace BK424 := Xbb BK424 hb; replace HB := Aside0.mk (below_step Xi hb); clear hb))
     go_meet
     case rel => exact ⟨_, (true), Xr, H', Xko, ⟨by (with_reducible repeat (first | apply Kd.R_alloc | apply Kd.R_drewN | apply Kd.R_drew)); exact Kd.R_mono HO417.out (fun _ hk => ⟨hk.1.2, hk.2⟩)⟩, ⟨by (with_reducible repeat (first | apply Kd.R_alloc | apply Kd.R_drewN | apply Kd.R_drew)); exact Kd.R_mono HO427.out (fun _ hk => ⟨hk.1.2, hk.2⟩)⟩, ⟨by (with_reducible repeat (first | apply Kd.R_alloc | apply Kd.R_drewN | apply Kd.R_drew)); exact Kd.R_mono HO433.out (fun _ hk => ⟨hk.1.2, hk.2⟩)⟩, ⟨by (with_reducible repeat (first | apply Kd.S_alloc | apply Kd.S_drewN | apply Kd.S_drew)); exact Kd.S_mono HO423.out (fun _ hk => trivial)⟩, BK400, BK401, BK424, ⟨Xi⟩⟩
   case rest =>
    clear HC23
    (try clear c1); (try clear c11); (try clear c11b0); (try clear c14); (try clear c14b0); (try clear hcz32_0); (try clear hcz32_1); (try clear hcz32_2); (try clear hcz37_0); (try clear hcz37_1); (try clear hcz37_2); (try clear hcz9_0); (try clear hcz9_1); (try clear hcz9_2); (try clear hfz32_0); (try clear hfz32_1); (try clear hfz32_2); (try clear hfz37_0); (try clear hfz37_1); (try clear hfz37_2); (try clear hfz9_0); (try clear hfz9_1); (try clear hfz9_2)
    (try clear HO_8); (try clear HO_11); (try clear HO_12); (try clear HO_425002)
    obtain ⟨kq, x59_22, rfl, HA, HJ22, HO_8, HO_11, HO_12, HO_425002, BK400, BK401, BK424, HB⟩ := hcut
    cases kq with
    | zero => cases HA.out
    | succ kj22 =>
     have H := HA.out
     clear HA
     simp only [laws_FnExactPutHold.j0] at H
     by_cases c53 : x59_22 = true
     ·subst c53
      (first | rw [if_pos rfl] at H | skip)
      cases H
     ·replace c53 := Bool.eq_false_iff.mpr c53
      subst c53
      (first | rw [if_neg (show ¬ (false = true) by decide)] at H | skip)
      replace H := Option.bind_eq_some_iff.mp H
      obtain ⟨⟨t436, t437, t438⟩, A540, H⟩ := H
      (try dsimp only at H)
      have A54 := Aside0.mk A540
      clear A540
      obtain ⟨t441, A55, H⟩ := Xbi H
      (try dsimp only at H)
      have HC56 := Aside0.mk H
      clear H
      try go_wp2_with (fail)
      replace HO_8 := Aside0.mk (Kd.R_drew HO_8.out)
      replace HO_11 := Aside0.mk (Kd.R_drew HO_11.out)
      replace HO_12 := Aside0.mk (Kd.R_drew HO_12.out)
      replace HO_425002 := Aside0.mk (Kd.S_drew HO_425002.out)
      replace BK400 := Aside0.mk (blk_drew BK400.out)
      replace BK401 := Aside0.mk (blk_drew BK401.out)
      replace BK424 := Aside0.mk (blk_drew BK424.out)
      replace HB := Aside0.mk (below_drew1 HB.out)
      refine start_ (n := 5) (S := fun w' => w'.cell? ⟨gb424, 0, none⟩ = some (.int .i64 t419) ∧ w'.cell? ⟨gb424, 1, none⟩ = some (.int .i64 t420) ∧ w'.cell? ⟨gb424, 2, none⟩ = some (.slice Ao38 t421.length co38) ∧ w'.cell? ⟨gb400, 0, none⟩ = some (.int .i64 a0_0) ∧ w'.cell? ⟨gb400, 1, none⟩ = some (.int .i64 a0_1) ∧ w'.cell? ⟨gb400, 2, none⟩ = some (.slice A0_2 l0_2.length c0_2)) (ds := []) #[false, false, false, false, false] (by kernel_rfl) rfl rfl ⟨(blk_cell BK424.out 0).trans rfl, (blk_cell BK424.out 1).trans rfl, (blk_cell BK424.out 2).trans rfl, (blk_cell BK400.out 0).trans rfl, (blk_cell BK400.out 1).trans rfl, (blk_cell BK400.out 2).trans rfl⟩ (fun hHeld => ?_)
      generalize wc.drew = w57 at HO_8 HO_11 HO_12 HO_425002 BK400 BK401 BK424 HB hHeld ⊢
      refine take_ (i := 0) (N := some 60) (v := ?_) (a' := ?_) #[true, false, false, false, false] rfl rfl (by kernel_rfl) (fun _ _ _ h => h) (Or.inl ⟨by rfl, ?_⟩) hHeld ?_ ?_
      rotate_left
      ·rintro w' ⟨s0, s1, s2, s3, s4, s5⟩
       go_simp
       with_reducible rfl
      rotate_left
      ·simp only [XW.q0, XW.q1, XW.q2, i64_w, i32_w]
       rfl
      refine take_ (i := 1) (N := some 61) (v := ?_) (a' := ?_) #[true, true, false, false, false] rfl rfl (by kernel_rfl) (fun _ _ _ h => h) (Or.inl ⟨by rfl, ?_⟩) hHeld ?_ ?_
      rotate_left
      ·rintro w' ⟨s0, s1, s2, s3, s4, s5⟩
       go_simp
       with_reducible rfl
      rotate_left
      ·simp only [XW.q0, XW.q1, XW.q2, i64_w, i32_w]
       rfl
      refine one_ (i := 2) (N := some 62) #[true, true, true, false, false] rfl rfl (by kernel_rfl) (by decide) (fun K hK => ?_)
      refine goes_ Try.func11 (by kernel_rfl) rfl #[.agg #[.int .i64 a0_0, .int .i64 a0_1, .slice A0_2 l0_2.length c0_2]] (by rfl) rfl rfl (by (try simp only [List.map_toArray, List.map_cons, List.map_nil]); first | done | rfl | (simp only [List.length_drop, List.length_take]; rfl)) ?_
      with_reducible refine (laws_toDoc.calls kj22 a0_0 a0_1 _ _ l0_2 t436 t437 t438 _ ?side1 ?side2 A54.out).mono ?_
      (case side1 => exact Xc HR0_2)
      (case side2 => exact HC0_2.out)
      rintro e w58 ⟨v439, rfl, ho0, hb⟩
      refine ⟨_, rfl, ?_⟩
      replace HO_8 := Aside0.mk (Kd.R_below (Xq HO_8) hb)
      replace HO_11 := Aside0.mk (Kd.R_below (Xq HO_11) hb)
      replace HO_12 := Aside0.mk (Kd.R_below (Xq HO_12) hb)
      have HO440 := Aside0.mk (Kd.S_lower (Kd.S_new' ho0 (Kd.S_lt (Xq HO_425002))) (below_size Xi))
      replace HO_425002 := Aside0.mk (Kd.S_elder' (Xq HO_425002) (Kd.S_base ho0) hb)
      replace BK400 := Xbb BK400 hb
      replace BK401 := Xbb BK401 hb
      replace BK424 := Xbb BK424 hb
      replace HB := Aside0.mk (below_step Xi hb)
      (try clear hb)
      (try clear hb2)
      (try clear hk)
      (try clear hi)
      (try clear ho0)
      obtain ⟨Ao59, co59, eo59⟩ := Kd.S_slice HO440.out
      (first | subst eo59 | (injection eo59 with f1_ f2_ f3_; have f4_ := f1_.symm; have f5_ := f3_.symm; clear f1_ f2_ f3_; subst f4_; subst f5_))
      refine hK.out _ _ ⟨(blk_cell BK424.out 0).trans rfl, (blk_cell BK424.out 1).trans rfl, (blk_cell BK424.out 2).trans rfl, (blk_cell BK400.out 0).trans rfl, (blk_cell BK400.out 1).trans rfl, (blk_cell BK400.out 2).trans rfl⟩ (fun hHeld => ?_)
      clear hK K
      refine Xno ?_
      refine one_ (i := 3) (N := some 63) #[true, true, true, true, false] rfl rfl (by kernel_rfl) (by decide) (fun K hK => ?_)
      refine goes_ Try.func16 (by kernel_rfl) rfl #[.agg #[.int .i64 t419, .int .i64 t420, .slice Ao38 t421.length co38], .agg #[.int .i64 t436, .int .i64 t437, .slice Ao59 t438.length co59]] (by rfl) rfl rfl (by (try simp only [List.map_toArray, List.map_cons, List.map_nil]); first | done | rfl | (simp only [List.length_drop, List.length_take]; rfl)) ?_
      with_reducible refine (laws_eqDoc.calls kj22 t419 t420 _ _ t421 t436 t437 _ _ t438 t441 _ ?side1 ?side2 ?side3 ?side4 A55.out).mono ?_
      (case side1 => repeat (first | exact (Kd.S_reads' HO_425002.out).2.2 | (with_reducible first | refine Kd.C_alloc ?_ _ | refine Kd.C_drewN ?_ _ | refine Kd.C_drew ?_)))
      (case side2 => exact (Kd.S_reads' HO_425002.out).2.1)
      (case side3 => repeat (first | exact (Kd.S_reads' HO440.out).2.2 | (with_reducible first | refine Kd.C_alloc ?_ _ | refine Kd.C_drewN ?_ _ | refine Kd.C_drew ?_)))
      (case side4 => exact (Kd.S_reads' HO440.out).2.1)
      rintro e w60 ⟨rfl, hb⟩
      refine ⟨_, rfl, ?_⟩
      replace HO_8 := Aside0.mk (Kd.R_below (Xq HO_8) hb)
      replace HO_11 := Aside0.mk (Kd.R_below (Xq HO_11) hb)
      replace HO_12 := Aside0.mk (Kd.R_below (Xq HO_12) hb)
      replace HO_425002 := Aside0.mk (Kd.S_below (Xq HO_425002) hb)
      replace HO440 := Aside0.mk (Kd.S_below (Xq HO440) hb)
      replace BK400 := Xbb BK400 hb
      replace BK401 := Xbb BK401 hb
      replace BK424 := Xbb BK424 hb
      replace HB := Aside0.mk (below_step Xi hb)
      (try clear hb)
      (try clear hb2)
      (try clear hk)
      (try clear hi)
      refine hK.out _ _ ⟨(blk_cell BK424.out 0).trans rfl, (blk_cell BK424.out 1).trans rfl, (blk_cell BK424.out 2).trans rfl, (blk_cell BK400.out 0).trans rfl, (blk_cell BK400.out 1).trans rfl, (blk_cell BK400.out 2).trans rfl⟩ (fun hHeld => ?_)
      clear hK K
      refine Xno ?_
      refine pure_ (i := 4) (N := some 64) (v := ?_) (a' := ?_) #[true, true, true, true, true] rfl rfl (by kernel_rfl) (fun _ _ _ h => h) (Or.inl ⟨by rfl, ?_⟩) ?_ ?_
      rotate_left
      ·intro w'
       go_simp
       with_reducible rfl
      rotate_left
      ·simp only [XW.q0, XW.q1, XW.q2, i64_w, i32_w]
       rfl
      refine done_ (by kernel_rfl) ?_
      go_upto_if 64 with (fail)
      have H := HC56.out
      clear HC56
      by_cases c61 : t441 = true
      ·subst c61
       (first | rw [if_pos rfl] at H | skip)
       obtain ⟨t442, A62, H⟩ := Xbi H
       (try dsimp only at H)
       obtain ⟨t445, A63, H⟩ := Xbi H
       (try dsimp only at H)
       have HC64 := Aside0.mk H
       clear H
       go_upto_if 69 with (first | ((with_reducible refine gate_callee (f := 12) rfl ?_); refine Xgo 67 Try.func12 #[.slice A1 l1.length c1] ?_; (with_reducible refine (laws_toHoldS.calls kj22 _ _ l1 t442 _ ?side1 ?side2 A62.out).mono ?_); (case side1 => exact Xc HR1); (case side2 => exact HC1.out); rintro e w65 ⟨v443, rfl, ho0, hb⟩; refine ⟨_, rfl, ?_⟩; replace HO_425002 := Aside0.mk (Kd.S_below (Xq HO_425002) hb); replace HO440 := Aside0.mk (Kd.S_below (Xq HO440) hb); have HO444 := Aside0.mk (Kd.R_lower (Kd.R_new' (Kd.R_new' (Kd.R_new' ho0 (Kd.R_lt (Xq HO_8))) (Kd.R_lt (Xq HO_11))) (Kd.R_lt (Xq HO_12))) (below_size Xi)); replace HO_8 := Aside0.mk (Kd.R_elder' (Xq HO_8) (Kd.R_base ho0) hb); replace HO_11 := Aside0.mk (Kd.R_elder' (Xq HO_11) (Kd.R_base ho0) hb); replace HO_12 := Aside0.mk (Kd.R_elder' (Xq HO_12) (Kd.R_base ho0) hb); replace BK400 := Xbb BK400 hb; replace BK401 := Xbb BK401 hb; replace BK424 := Xbb BK424 hb; replace HB := Aside0.mk (below_step Xi hb); clear hb; (try clear ho0); obtain ⟨Ao66, co66, eo66⟩ := Kd.R_slice HO444.out; subst eo66) | ((with_reducible refine gate_callee (f := 15) rfl ?_); refine Xgo 68 Try.func15 #[.slice Ao43 t425.length co43, .slice Ao66 t442.length co66] ?_; (with_reducible refine (laws_eqHoldS.calls kj22 _ _ t425 _ _ t442 t445 _ ?side1 ?side2 ?side3 ?side4 A63.out).mono ?_); (case side1 => repeat (first | exact (Kd.R_reads' HO_11.out).2.2 | (with_reducible first | refine Kd.C_alloc ?_ _ | refine Kd.C_drewN ?_ _ | refine Kd.C_drew ?_))); (case side2 => exact (Kd.R_reads' HO_11.out).2.1); (case side3 => repeat (first | exact (Kd.R_reads' HO444.out).2.2 | (with_reducible first | refine Kd.C_alloc ?_ _ | refine Kd.C_drewN ?_ _ | refine Kd.C_drew ?_))); (case side4 => exact (Kd.R_reads' HO444.out).2.1); rintro e w67 ⟨rfl, hb⟩; refine ⟨_, rfl, ?_⟩; replace HO_8 := Aside0.mk (Kd.R_below (Xq HO_8) hb); replace HO_11 := Aside0.mk (Kd.R_below (Xq HO_11) hb); replace HO_12 := Aside0.mk (Kd.R_below (Xq HO_12) hb); replace HO_425002 := Aside0.mk (Kd.S_below (Xq HO_425002) hb); replace HO440 := Aside0.mk (Kd.S_below (Xq HO440) hb); replace HO444 := Aside0.mk (Kd.R_below (Xq HO444) hb); replace BK400 := Xbb BK400 hb; replace BK401 := Xbb BK401 hb; replace BK424 := Xbb BK424 hb; replace HB := Aside0.mk (below_step Xi hb); clear hb))
       have H := HC64.out
       clear HC64
       by_cases c68 : t445 = true
       ·subst c68
        (first | rw [if_pos rfl] at H | skip)
        replace H := Option.bind_eq_some_iff.mp H
        obtain ⟨⟨t446, t447⟩, A690, H⟩ := H
        (try dsimp only at H)
        have A69 := Aside0.mk A690
        clear A690
        replace H := Option.bind_eq_some_iff.mp H
        obtain ⟨⟨t448, t449⟩, A700, H⟩ := H
        (try dsimp only at H)
        have A70 := Aside0.mk A700
        clear A700
        have HC71 := Aside0.mk H
        clear H
        have hnb72 := NB424_400.out
        have hnc72 := NB400_424.out
        have hnb73 := NB424_401.out
        have hnc73 := NB401_424.out
        obtain ⟨hcz74_0, hcz74_1, hcz74_2⟩ := Xc3 BK424
        obtain ⟨hfz74_0, hfz74_1, hfz74_2⟩ := Xf3 BK424
        go_upto_region 21 with (first | ((with_reducible refine gate_callee (f := 17) rfl ?_); refine Xgo 72 Try.func17 #[.agg #[.int .i64 t419, .int .i64 t420, .slice Ao38 t421.length co38], .int .i64 1] ?_; (with_reducible refine (laws_markDoc.calls kj22 t419 t420 (fun k_ => ((((((((True ∧ some k_ ≠ (.slice Ao59 t438.length co59 : Value).ownBlock) ∧ k_ ≠ gb400) ∧ k_ ≠ gb401) ∧ k_ ≠ gb424) ∧ some k_ ≠ (v416 : Value).ownBlock) ∧ some k_ ≠ (.slice Ao43 t425.length co43 : Value).ownBlock) ∧ some k_ ≠ (v432 : Value).ownBlock) ∧ some k_ ≠ (.slice Ao66 t442.length co66 : Value).ownBlock)) (.slice Ao38 t421.length co38) t421 1 t446 t447 w _ ?side1 ?side2 A69.out).mono ?_); (case side1 => exact Xi); (case side2 => (with_reducible repeat (first | apply Kd.S_alloc | apply Kd.S_drewN | apply Kd.S_drew)); exact (Kd.S_apart' (Kd.S_apart' (Kd.S_apart' (Kd.S_apart' (Kd.S_types (Kd.S_types (Kd.S_types HO_425002.out BK400.out (by decide)) BK401.out (by decide)) BK424.out (by decide)) (Kd.R_typed HO_8.out) (by decide)) (Kd.R_typed HO_11.out) (by decide)) (Kd.R_typed HO_12.out) (by decide)) (Kd.R_typed HO444.out) (by decide))); rintro e w75 ⟨rfl, hy0, hb, hkp⟩; refine ⟨_, rfl, ?_⟩; replace HO_8 := Aside0.mk (Kd.R_mono (ok' := fun k_ => some k_ ≠ (.slice Ao43 t425.length co43 : Value).ownBlock ∧ some k_ ≠ (v432 : Value).ownBlock ∧ some k_ ≠ (.slice Ao66 t442.length co66 : Value).ownBlock) (XR.R_keptT rfl HO_8.out hkp (fun k_ hk_ hs_ => (hs_.1.1.1.2) hk_.1)) (fun k_ hk_ => ⟨hk_.1.1.1, hk_.1.1.2, hk_.1.2⟩)); replace HO_11 := Aside0.mk (Kd.R_mono (ok' := fun k_ => some k_ ≠ (v416 : Value).ownBlock ∧ some k_ ≠ (v432 : Value).ownBlock ∧ some k_ ≠ (.slice Ao66 t442.length co66 : Value).ownBlock) (XR.R_keptT rfl HO_11.out hkp (fun k_ hk_ hs_ => (hs_.1.1.2) hk_.1)) (fun k_ hk_ => ⟨hk_.1.1.1, hk_.1.1.2, hk_.1.2⟩)); replace HO_12 := Aside0.mk (Kd.R_mono (ok' := fun k_ => some k_ ≠ (v416 : Value).ownBlock ∧ some k_ ≠ (.slice Ao43 t425.length co43 : Value).ownBlock ∧ some k_ ≠ (.slice Ao66 t442.length co66 : Value).ownBlock) (XR.R_keptT rfl HO_12.out hkp (fun k_ hk_ hs_ => (hs_.1.2) hk_.1)) (fun k_ hk_ => ⟨hk_.1.1.1, hk_.1.1.2, hk_.1.2⟩)); replace HO_425002 := Aside0.mk (hy0); replace BK400 := Aside0.mk (blk_kept BK400.out hkp (fun hs_ => (hs_.1.1.1.1.1.1.2) rfl)); replace BK401 := Aside0.mk (blk_kept BK401.out hkp (fun hs_ => (hs_.1.1.1.1.1.2) rfl)); replace BK424 := Aside0.mk (blk_kept BK424.out hkp (fun hs_ => (hs_.1.1.1.1.2) rfl)); replace HO444 := Aside0.mk (Kd.R_mono (ok' := fun k_ => some k_ ≠ (v416 : Value).ownBlock ∧ some k_ ≠ (.slice Ao43 t425.length co43 : Value).ownBlock ∧ some k_ ≠ (v432 : Value).ownBlock) (XR.R_keptT rfl HO444.out hkp (fun k_ hk_ hs_ => (hs_.2) hk_.1)) (fun k_ hk_ => ⟨hk_.1.1.1.2, hk_.1.1.2, hk_.1.2⟩)); replace HB := Aside0.mk (hb); clear HO440; (try clear hb); (try clear hkp); (try clear hy0)) | ((with_reducible refine gate_callee (f := 18) rfl ?_); refine Xgo 75 Try.func18 #[.slice Ao43 t425.length co43, .int .i64 t446] ?_; (with_reducible refine (laws_markHoldS.calls kj22 (fun k_ => some k_ = (.slice Ao43 t425.length co43 : Value).ownBlock) (.slice Ao43 t425.length co43) t425 t446 t448 t449 w _ ?side1 ?side2 A70.out).mono ?_); (case side1 => exact Xi); (case side2 => exact Kd.R_tight rfl HO_11.out); rintro e w76 ⟨rfl, hy0, hb, hkp⟩; refine ⟨_, rfl, ?_⟩; replace HO_8 := Aside0.mk (Kd.R_mono (ok' := fun k_ => some k_ ≠ (.slice Ao43 t425.length co43 : Value).ownBlock ∧ some k_ ≠ (v432 : Value).ownBlock ∧ some k_ ≠ (.slice Ao66 t442.length co66 : Value).ownBlock) (Kd.R_keptB (HO_8.out) hkp (fun k_ hk_ hs_ => (hk_.1) hs_)) (fun k_ hk_ => ⟨hk_.1.1, hk_.1.2.1, hk_.1.2.2⟩)); replace HO_12 := Aside0.mk (Kd.R_mono (ok' := fun k_ => some k_ ≠ (v416 : Value).ownBlock ∧ some k_ ≠ (.slice Ao43 t425.length co43 : Value).ownBlock ∧ some k_ ≠ (.slice Ao66 t442.length co66 : Value).ownBlock) (Kd.R_keptB (HO_12.out) hkp (fun k_ hk_ hs_ => (hk_.2.1) hs_)) (fun k_ hk_ => ⟨hk_.1.1, hk_.1.2.1, hk_.1.2.2⟩)); replace HO_425002 := Aside0.mk (Kd.S_mono (ok' := fun k_ => some k_ ≠ (v416 : Value).ownBlock ∧ some k_ ≠ (.slice Ao43 t425.length co43 : Value).ownBlock ∧ some k_ ≠ (v432 : Value).ownBlock ∧ some k_ ≠ (.slice Ao66 t442.length co66 : Value).ownBlock ∧ k_ ≠ gb400 ∧ k_ ≠ gb401 ∧ k_ ≠ gb424) (Kd.S_keptB (HO_425002.out) hkp (fun k_ hk_ hs_ => (hk_.1.1.2) hs_)) (fun k_ hk_ => ⟨hk_.1.1.1.1.2, hk_.1.1.1.2, hk_.1.1.2, hk_.1.2, hk_.1.1.1.1.1.1.1.2, hk_.1.1.1.1.1.1.2, hk_.1.1.1.1.1.2⟩)); replace BK400 := Aside0.mk (blk_kept BK400.out hkp (fun hs_ => (fun e_ => (Kd.R_ne HO_11.out BK400.out (by decide)) e_) hs_)); replace BK401 := Aside0.mk (blk_kept BK401.out hkp (fun hs_ => (fun e_ => (Kd.R_ne HO_11.out BK401.out (by decide)) e_) hs_)); replace BK424 := Aside0.mk (blk_kept BK424.out hkp (fun hs_ => (fun e_ => (Kd.R_ne HO_11.out BK424.out (by decide)) e_) hs_)); replace HO_11 := Aside0.mk (Kd.R_reok rfl hy0 (fun k_ e_ => HO_11.out.1 k_ e_)); replace HO444 := Aside0.mk (Kd.R_mono (ok' := fun k_ => some k_ ≠ (v416 : Value).ownBlock ∧ some k_ ≠ (.slice Ao43 t425.length co43 : Value).ownBlock ∧ some k_ ≠ (v432 : Value).ownBlock) (Kd.R_keptB (HO444.out) hkp (fun k_ hk_ hs_ => (hk_.2.1) hs_)) (fun k_ hk_ => ⟨hk_.1.1, hk_.1.2.1, hk_.1.2.2⟩)); replace HB := Aside0.mk (hb); (try clear hb); (try clear hkp); (try clear hy0)))
        (try simp only [XW.q0, XW.q1, XW.q2])
        go_cut [88] (fun v88 wc => ∃ (kq : Nat) (x88_70 : Bool), v88 = .bool x88_70 ∧ Aside0 (laws_FnExactPutHold.j1 kq l1 t415 t418 t431 x88_70 a0_0 a0_1 l0_2 a2_0 a2_1 a2_2 = some true) ∧ Aside0 (kq ≤ kj22) ∧ Aside0 (Kd.R k38 38 wc w.heap.size (fun k_ => some k_ ≠ (v432 : Value).ownBlock) v416 t415) ∧ Aside0 (Kd.R k38 38 wc w.heap.size (fun k_ => some k_ ≠ (v416 : Value).ownBlock) v432 t431) ∧ Aside0 (Kd.S k64 64 wc w.heap.size (fun _ => True) (.slice Ao38 t421.length co38) t447) ∧ Aside0 (wc.heap[gb400]? = some (.cells #[.int .i64 a0_0, .int .i64 a0_1, (.slice A0_2 l0_2.length c0_2)] 24 (0, 0))) ∧ Aside0 (wc.heap[gb401]? = some (.cells #[.int .i64 a2_0, .int .i64 a2_1, .int .i64 a2_2] 27 (0, 0))) ∧ Aside0 (wc.heap[gb424]? = some (.cells #[.int .i64 t419, .int .i64 t420, (.slice Ao38 t421.length co38)] 35 (0, 0))) ∧ Aside0 (Below w.heap.size w wc))
        case first =>
         have H := HC71.out
         clear HC71
         obtain ⟨c77b0, H⟩ | ⟨c77b0, H⟩ := Xit H
         ·(first | rw [c77b0] | (simp only [i64_w, i32_w]; rw [c77b0]) | skip)
          have H' := Aside0.mk H
          clear H
          go_wp2
          go_meet
          case rel => exact ⟨_, (true), Xr, H', ⟨by have := HJ22.out; first | omega | exact Nat.le_refl _⟩, ⟨by (with_reducible repeat (first | apply Kd.R_alloc | apply Kd.R_drewN | apply Kd.R_drew)); exact Kd.R_mono HO_8.out (fun _ hk => hk.2.1)⟩, ⟨by (with_reducible repeat (first | apply Kd.R_alloc | apply Kd.R_drewN | apply Kd.R_drew)); exact Kd.R_mono HO_12.out (fun _ hk => hk.1)⟩, ⟨by (with_reducible repeat (first | apply Kd.S_alloc | apply Kd.S_drewN | apply Kd.S_drew)); exact Kd.S_mono HO_425002.out (fun _ hk => trivial)⟩, BK400, BK401, BK424, ⟨Xi⟩⟩
         ·(first | rw [c77b0] | (simp only [i64_w, i32_w]; rw [c77b0]) | skip)
          obtain ⟨t450, A78, H⟩ := Xbi H
          (try dsimp only at H)
          by_cases c79 : t450 = true
          ·subst c79
           (first | rw [if_pos rfl] at H | skip)
           have H' := Aside0.mk H
           clear H
           obtain ⟨Ao80, co80, eo80⟩ := Kd.R_slice HO_12.out
           subst eo80
           obtain ⟨Ao81, co81, eo81⟩ := Kd.R_slice HO_8.out
           subst eo81
           go_wp2_with (first | (go_at_call 15; (with_reducible refine (laws_eqHoldS.calls kj22 _ _ t431 _ _ t415 true _ ?side1 ?side2 ?side3 ?side4 A78.out).mono ?_); (case side1 => repeat (first | exact (Kd.R_reads' HO_12.out).2.2 | (with_reducible first | refine Kd.C_alloc ?_ _ | refine Kd.C_drewN ?_ _ | refine Kd.C_drew ?_))); (case side2 => exact (Kd.R_reads' HO_12.out).2.1); (case side3 => repeat (first | exact (Kd.R_reads' HO_8.out).2.2 | (with_reducible first | refine Kd.C_alloc ?_ _ | refine Kd.C_drewN ?_ _ | refine Kd.C_drew ?_))); (case side4 => exact (Kd.R_reads' HO_8.out).2.1); rintro e w82 ⟨rfl, hb⟩; replace HO_8 := Aside0.mk (Kd.R_below (Xq HO_8) hb); replace HO_11 := Aside0.mk (Kd.R_below (Xq HO_11) hb); replace HO_12 := Aside0.mk (Kd.R_below (Xq HO_12) hb); replace HO_425002 := Aside0.mk (Kd.S_below (Xq HO_425002) hb); replace HO444 := Aside0.mk (Kd.R_below (Xq HO444) hb); replace BK400 := Xbb BK400 hb; replace BK401 := Xbb BK401 hb; replace BK424 := Xbb BK424 hb; replace HB := Aside0.mk (below_step Xi hb); clear hb))
           go_meet
           case rel => exact ⟨_, ((t434 != t418)), Xr, H', ⟨by have := HJ22.out; first | omega | exact Nat.le_refl _⟩, ⟨by (with_reducible repeat (first | apply Kd.R_alloc | apply Kd.R_drewN | apply Kd.R_drew)); exact Kd.R_mono HO_8.out (fun _ hk => hk.2.1)⟩, ⟨by (with_reducible repeat (first | apply Kd.R_alloc | apply Kd.R_drewN | apply Kd.R_drew)); exact Kd.R_mono HO_12.out (fun _ hk => hk.1)⟩, ⟨by (with_reducible repeat (first | apply Kd.S_alloc | apply Kd.S_drewN | apply Kd.S_drew)); exact Kd.S_mono HO_425002.out (fun _ hk => trivial)⟩, BK400, BK401, BK424, ⟨Xi⟩⟩
          ·replace c79 := Bool.eq_false_iff.mpr c79
           subst c79
           (first | rw [if_neg (show ¬ (false = true) by decide)] at H | skip)
           have H' := Aside0.mk H
           clear H
           obtain ⟨Ao83, co83, eo83⟩ := Kd.R_slice HO_12.out
           subst eo83
           obtain ⟨Ao84, co84, eo84⟩ := Kd.R_slice HO_8.out
           subst eo84
           go_wp2_with (first | (go_at_call 15; (with_reducible refine (laws_eqHoldS.calls kj22 _ _ t431 _ _ t415 false _ ?side1 ?side2 ?side3 ?side4 A78.out).mono ?_); (case side1 => repeat (first | exact (Kd.R_reads' HO_12.out).2.2 | (with_reducible first | refine Kd.C_alloc ?_ _ | refine Kd.C_drewN ?_ _ | refine Kd.C_drew ?_))); (case side2 => exact (Kd.R_reads' HO_12.out).2.1); (case side3 => repeat (first | exact (Kd.R_reads' HO_8.out).2.2 | (with_reducible first | refine Kd.C_alloc ?_ _ | refine Kd.C_drewN ?_ _ | refine Kd.C_drew ?_))); (case side4 => exact (Kd.R_reads' HO_8.out).2.1); rintro e w85 ⟨rfl, hb⟩; replace HO_8 := Aside0.mk (Kd.R_below (Xq HO_8) hb); replace HO_11 := Aside0.mk (Kd.R_below (Xq HO_11) hb); replace HO_12 := Aside0.mk (Kd.R_below (Xq HO_12) hb); replace HO_425002 := Aside0.mk (Kd.S_below (Xq HO_425002) hb); replace HO444 := Aside0.mk (Kd.R_below (Xq HO444) hb); replace BK400 := Xbb BK400 hb; replace BK401 := Xbb BK401 hb; replace BK424 := Xbb BK424 hb; replace HB := Aside0.mk (below_step Xi hb); clear hb))
           go_meet
           case rel => exact ⟨_, (true), Xr, H', ⟨by have := HJ22.out; first | omega | exact Nat.le_refl _⟩, ⟨by (with_reducible repeat (first | apply Kd.R_alloc | apply Kd.R_drewN | apply Kd.R_drew)); exact Kd.R_mono HO_8.out (fun _ hk => hk.2.1)⟩, ⟨by (with_reducible repeat (first | apply Kd.R_alloc | apply Kd.R_drewN | apply Kd.R_drew)); exact Kd.R_mono HO_12.out (fun _ hk => hk.1)⟩, ⟨by (with_reducible repeat (first | apply Kd.S_alloc | apply Kd.S_drewN | apply Kd.S_drew)); exact Kd.S_mono HO_425002.out (fun _ hk => trivial)⟩, BK400, BK401, BK424, ⟨Xi⟩⟩
        case rest =>
         clear HC71
         (try clear c1); (try clear c11); (try clear c11b0); (try clear c14); (try clear c14b0); (try clear c53); (try clear c61); (try clear c68); (try clear hcz32_0); (try clear hcz32_1); (try clear hcz32_2); (try clear hcz37_0); (try clear hcz37_1); (try clear hcz37_2); (try clear hcz74_0); (try clear hcz74_1); (try clear hcz74_2); (try clear hcz9_0); (try clear hcz9_1); (try clear hcz9_2); (try clear hfz32_0); (try clear hfz32_1); (try clear hfz32_2); (try clear hfz37_0); (try clear hfz37_1); (try clear hfz37_2); (try clear hfz74_0); (try clear hfz74_1); (try clear hfz74_2); (try clear hfz9_0); (try clear hfz9_1); (try clear hfz9_2)
         (try clear HO_8); (try clear HO_12); (try clear HO_425002)
         obtain ⟨kq, x88_70, rfl, HA, HJ70, HO_8, HO_12, HO_425002, BK400, BK401, BK424, HB⟩ := hcut
         have hl425002_70 := (Kd.S_reads' HO_425002.out).1
         rw [hl425002_70] at HO_425002
         (try simp only [hl425002_70])
         (try simp only [hl425002_70] at BK400)
         (try simp only [hl425002_70] at BK401)
         (try simp only [hl425002_70] at BK424)
         (try simp only [hl425002_70] at HO_8)
         (try simp only [hl425002_70] at HO_12)
         cases kq with
         | zero => cases HA.out
         | succ kj70 =>
          have H := HA.out
          clear HA
          simp only [laws_FnExactPutHold.j1] at H
          by_cases c86 : x88_70 = true
          ·subst c86
           (first | rw [if_pos rfl] at H | skip)
           cases H
          ·replace c86 := Bool.eq_false_iff.mpr c86
           subst c86
           (first | rw [if_neg (show ¬ (false = true) by decide)] at H | skip)
           replace H := Option.bind_eq_some_iff.mp H
           obtain ⟨⟨t451, t452⟩, A870, H⟩ := H
           (try dsimp only at H)
           have A87 := Aside0.mk A870
           clear A870
           obtain ⟨t453, A88, H⟩ := Xbi H
           (try dsimp only at H)
           have HC89 := Aside0.mk H
           clear H
           obtain ⟨Ao90, co90, eo90⟩ := Kd.R_slice HO_12.out
           subst eo90
           go_upto_if 96 with (first | ((with_reducible refine gate_callee (f := 18) rfl ?_); refine Xgo 91 Try.func18 #[.slice Ao90 t431.length co90, .int .i64 1] ?_; (with_reducible refine (laws_markHoldS.calls kj70 (fun k_ => some k_ = (.slice Ao90 t431.length co90 : Value).ownBlock) (.slice Ao90 t431.length co90) t431 1 t451 t452 w _ ?side1 ?side2 A87.out).mono ?_); (case side1 => exact Xi); (case side2 => exact Kd.R_tight rfl HO_12.out); rintro e w91 ⟨rfl, hy0, hb, hkp⟩; refine ⟨_, rfl, ?_⟩; replace HO_8 := Aside0.mk (Kd.R_mono (ok' := fun k_ => some k_ ≠ (.slice Ao90 t431.length co90 : Value).ownBlock) (Kd.R_keptB (HO_8.out) hkp (fun k_ hk_ hs_ => (hk_) hs_)) (fun k_ hk_ => hk_.1)); replace HO_425002 := Aside0.mk (Kd.S_mono (ok' := fun k_ => True) (Kd.S_keptB ((Kd.S_apart' HO_425002.out (Kd.R_typed HO_12.out) (by decide))) hkp (fun k_ hk_ hs_ => (hk_.2) hs_)) (fun k_ hk_ => trivial)); replace BK400 := Aside0.mk (blk_kept BK400.out hkp (fun hs_ => (fun e_ => (Kd.R_ne HO_12.out BK400.out (by decide)) e_) hs_)); replace BK401 := Aside0.mk (blk_kept BK401.out hkp (fun hs_ => (fun e_ => (Kd.R_ne HO_12.out BK401.out (by decide)) e_) hs_)); replace BK424 := Aside0.mk (blk_kept BK424.out hkp (fun hs_ => (fun e_ => (Kd.R_ne HO_12.out BK424.out (by decide)) e_) hs_)); replace HO_12 := Aside0.mk (Kd.R_reok rfl hy0 (fun k_ e_ => HO_12.out.1 k_ e_)); replace HB := Aside0.mk (hb); (try clear hb); (try clear hkp); (try clear hy0)) | ((with_reducible refine gate_callee (f := 19) rfl ?_); refine goesL_ (some 94) rfl rfl Try.func19 (by kernel_rfl) rfl #[.slice Ao90 t452.length co90, .int .i64 1] rfl (by (try simp only [List.map_toArray, List.map_cons, List.map_nil]); first | done | (rw [show t452.length = t431.length from (Kd.R_reads' HO_12.out).1.symm] <;> rfl) | rfl | (simp only [List.length_drop, List.length_take]; rfl)) ?_; (with_reducible refine (laws_heldHoldS.calls kj70 _ _ t452 1 t453 _ ?side1 ?side2 A88.out).mono ?_); (case side1 => repeat (first | exact (Kd.R_reads' HO_12.out).2.2 | (with_reducible first | refine Kd.C_alloc ?_ _ | refine Kd.C_drewN ?_ _ | refine Kd.C_drew ?_))); (case side2 => rw [show t452.length = t431.length from (Kd.R_reads' HO_12.out).1.symm]; exact (Kd.R_reads' HO_12.out).2.1); rintro e w' ⟨rfl, ⟨nd, rfl⟩⟩; refine ⟨_, rfl, ?_⟩))
           (try (rw [drewN_self w91]; generalize hq_ : World.drewN w91 _ = w91; have n0_ : Aside0 (Kd.R k38 38 w91 w.heap.size (fun k_ => some k_ ≠ (v416 : Value).ownBlock) (.slice Ao90 t431.length co90) t452) := ⟨by rw [← hq_]; exact (Xq HO_12)⟩; have n1_ : Aside0 (Kd.S k64 64 w91 w.heap.size (fun _ => True) (.slice Ao38 t447.length co38) t447) := ⟨by rw [← hq_]; exact (Xq HO_425002)⟩; have n2_ : Aside0 (Kd.R k38 38 w91 w.heap.size (fun k_ => some k_ ≠ (.slice Ao90 t431.length co90 : Value).ownBlock) v416 t415) := ⟨by rw [← hq_]; exact (Xq HO_8)⟩; have n3_ : Aside0 (w91.heap[gb400]? = some (.cells #[.int .i64 a0_0, .int .i64 a0_1, .slice A0_2 l0_2.length c0_2] 24 (0, 0))) := ⟨by rw [← hq_]; exact BK400.out⟩; have n4_ : Aside0 (w91.heap[gb401]? = some (.cells #[.int .i64 a2_0, .int .i64 a2_1, .int .i64 a2_2] 27 (0, 0))) := ⟨by rw [← hq_]; exact BK401.out⟩; have n5_ : Aside0 (w91.heap[gb424]? = some (.cells #[.int .i64 t419, .int .i64 t420, .slice Ao38 t447.length co38] 35 (0, 0))) := ⟨by rw [← hq_]; exact BK424.out⟩; have n6_ : Aside0 (Below w.heap.size w w91) := ⟨by rw [← hq_]; exact Xi⟩; clear HO_12 HO_425002 HO_8 BK400 BK401 BK424 HB hq_; have HO_12 := n0_; have HO_425002 := n1_; have HO_8 := n2_; have BK400 := n3_; have BK401 := n4_; have BK424 := n5_; have HB := n6_; clear n0_ n1_ n2_ n3_ n4_ n5_ n6_))
           have H := HC89.out
           clear HC89
           obtain ⟨c92b0, H⟩ | ⟨c92b0, H⟩ := Xit H
           ·(first | rw [c92b0] | (simp only [i64_w, i32_w]; rw [c92b0]) | skip)
            cases H
           ·(first | rw [c92b0] | (simp only [i64_w, i32_w]; rw [c92b0]) | skip)
            obtain ⟨c93, H⟩ | ⟨c93, H⟩ := Xiu H
            ·have c93b0 : (t453 == t451) = true := beq_iff_eq.mpr c93
             have c93b1 : (t453 != t451) = false := bne_eq_false_iff_eq.mpr c93
             clear c93
             replace H := Option.bind_eq_some_iff.mp H
             obtain ⟨⟨t454, t455, t456⟩, A940, H⟩ := H
             (try dsimp only at H)
             have A94 := Aside0.mk A940
             clear A940
             obtain ⟨t459, A95, H⟩ := Xbi H
             (try dsimp only at H)
             replace H := Option.bind_eq_some_iff.mp H
             obtain ⟨⟨t462, t463, t464⟩, A960, H⟩ := H
             (try dsimp only at H)
             have A96 := Aside0.mk A960
             clear A960
             replace H := Option.bind_eq_some_iff.mp H
             obtain ⟨⟨t465, t468⟩, A970, H⟩ := H
             (try dsimp only at H)
             have A97 := Aside0.mk A970
             clear A970
             have HC98 := Aside0.mk H
             clear H
             try go_wp2
             replace HO_8 := Aside0.mk (Kd.R_drew HO_8.out)
             replace HO_12 := Aside0.mk (Kd.R_drew HO_12.out)
             replace HO_425002 := Aside0.mk (Kd.S_drew HO_425002.out)
             replace BK400 := Aside0.mk (blk_drew BK400.out)
             replace BK401 := Aside0.mk (blk_drew BK401.out)
             replace BK424 := Aside0.mk (blk_drew BK424.out)
             replace HB := Aside0.mk (below_drew1 HB.out)
             refine start_ (n := 12) (S := fun w' => w'.cell? ⟨gb400, 0, none⟩ = some (.int .i64 a0_0) ∧ w'.cell? ⟨gb400, 1, none⟩ = some (.int .i64 a0_1) ∧ w'.cell? ⟨gb400, 2, none⟩ = some (.slice A0_2 l0_2.length c0_2) ∧ w'.cell? ⟨gb401, 0, none⟩ = some (.int .i64 a2_0) ∧ w'.cell? ⟨gb401, 1, none⟩ = some (.int .i64 a2_1) ∧ w'.cell? ⟨gb401, 2, none⟩ = some (.int .i64 a2_2)) (ds := []) #[false, false, false, false, false, false, false, false, false, false, false, false] (by kernel_rfl) rfl rfl ⟨(blk_cell BK400.out 0).trans rfl, (blk_cell BK400.out 1).trans rfl, (blk_cell BK400.out 2).trans rfl, (blk_cell BK401.out 0).trans rfl, (blk_cell BK401.out 1).trans rfl, (blk_cell BK401.out 2).trans rfl⟩ (fun hHeld => ?_); refine with_tabW laws_FnExactPutHold.tab31 laws_FnExactPutHold.bits31 (fun HT_ HW_ => ?_)
             generalize w91.drew = w99 at HO_8 HO_12 HO_425002 BK400 BK401 BK424 HB hHeld ⊢
             refine Xpu 2 103 (XW.bs 12 4) HT_.out ?_
             refine Xta 0 101 (XW.bs 12 5) HT_.out HW_.out hHeld ?_
             refine Xta 4 105 (XW.bs 12 21) HT_.out HW_.out hHeld ?_
             refine one_ (i := 1) (N := some 102) (XW.bs 12 23) rfl rfl (one_of HT_.out (by kernel_rfl)) (by decide) (fun K hK => ?_)
             refine goes_ Try.func11 (by kernel_rfl) rfl #[.agg #[.int .i64 a0_0, .int .i64 a0_1, .slice A0_2 l0_2.length c0_2]] (by rfl) rfl rfl (by (try simp only [List.map_toArray, List.map_cons, List.map_nil]); first | done | rfl | (simp only [List.length_drop, List.length_take]; rfl)) ?_
             with_reducible refine (laws_toDoc.calls kj70 a0_0 a0_1 _ _ l0_2 t454 t455 t456 _ ?side1 ?side2 A94.out).mono ?_
             (case side1 => exact Xc HR0_2)
             (case side2 => exact HC0_2.out)
             rintro e w100 ⟨v457, rfl, ho0, hb⟩
             refine ⟨_, rfl, ?_⟩
             replace HO_8 := Aside0.mk (Kd.R_below (Xq HO_8) hb)
             replace HO_12 := Aside0.mk (Kd.R_below (Xq HO_12) hb)
             have HO458 := Aside0.mk (Kd.S_lower (Kd.S_new' ho0 (Kd.S_lt (Xq HO_425002))) (below_size Xi))
             replace HO_425002 := Aside0.mk (Kd.S_elder' (Xq HO_425002) (Kd.S_base ho0) hb)
             replace BK400 := Xbb BK400 hb
             replace BK401 := Xbb BK401 hb
             replace BK424 := Xbb BK424 hb
             replace HB := Aside0.mk (below_step Xi hb)
             (try clear hb)
             (try clear hb2)
             (try clear hk)
             (try clear hi)
             (try clear ho0)
             refine hK.out _ _ ⟨(blk_cell BK400.out 0).trans rfl, (blk_cell BK400.out 1).trans rfl, (blk_cell BK400.out 2).trans rfl, (blk_cell BK401.out 0).trans rfl, (blk_cell BK401.out 1).trans rfl, (blk_cell BK401.out 2).trans rfl⟩ (fun hHeld => ?_)
             clear hK K
             refine Xno ?_
             refine one_ (i := 3) (N := some 104) (XW.bs 12 31) rfl rfl (one_of HT_.out (by kernel_rfl)) (by decide) (fun K hK => ?_)
             refine goes_ Try.func12 (by kernel_rfl) rfl #[.slice A1 l1.length c1] (by rfl) rfl rfl (by (try simp only [List.map_toArray, List.map_cons, List.map_nil]); first | done | rfl | (simp only [List.length_drop, List.length_take]; rfl)) ?_
             with_reducible refine (laws_toHoldS.calls kj70 _ _ l1 t459 _ ?side1 ?side2 A95.out).mono ?_
             (case side1 => exact Xc HR1)
             (case side2 => exact HC1.out)
             rintro e w101 ⟨v460, rfl, ho0, hb⟩
             refine ⟨_, rfl, ?_⟩
             replace HO_425002 := Aside0.mk (Kd.S_below (Xq HO_425002) hb)
             replace HO458 := Aside0.mk (Kd.S_below (Xq HO458) hb)
             have HO461 := Aside0.mk (Kd.R_lower (Kd.R_new' (Kd.R_new' ho0 (Kd.R_lt (Xq HO_8))) (Kd.R_lt (Xq HO_12))) (below_size Xi))
             replace HO_8 := Aside0.mk (Kd.R_elder' (Xq HO_8) (Kd.R_base ho0) hb)
             replace HO_12 := Aside0.mk (Kd.R_elder' (Xq HO_12) (Kd.R_base ho0) hb)
             replace BK400 := Xbb BK400 hb
             replace BK401 := Xbb BK401 hb
             replace BK424 := Xbb BK424 hb
             replace HB := Aside0.mk (below_step Xi hb)
             (try clear hb)
             (try clear hb2)
             (try clear hk)
             (try clear hi)
             (try clear ho0)
             refine hK.out _ _ ⟨(blk_cell BK400.out 0).trans rfl, (blk_cell BK400.out 1).trans rfl, (blk_cell BK400.out 2).trans rfl, (blk_cell BK401.out 0).trans rfl, (blk_cell BK401.out 1).trans rfl, (blk_cell BK401.out 2).trans rfl⟩ (fun hHeld => ?_)
             clear hK K
             refine Xno ?_
             refine one_ (i := 5) (N := some 106) (XW.bs 12 63) rfl rfl (one_of HT_.out (by kernel_rfl)) (by decide) (fun K hK => ?_)
             refine goes_ Try.func13 (by kernel_rfl) rfl #[.agg #[.int .i64 a2_0, .int .i64 a2_1, .int .i64 a2_2]] (by rfl) rfl rfl (by (try simp only [List.map_toArray, List.map_cons, List.map_nil]); first | done | rfl | (simp only [List.length_drop, List.length_take]; rfl)) ?_
             with_reducible refine (laws_toHold.calls a2_0 a2_1 a2_2 t462 t463 t464 _ A96.out).mono ?_
             rintro e w102 ⟨rfl, hb⟩
             refine ⟨_, rfl, ?_⟩
             replace HO_8 := Aside0.mk (Kd.R_below (Xq HO_8) hb)
             replace HO_12 := Aside0.mk (Kd.R_below (Xq HO_12) hb)
             replace HO_425002 := Aside0.mk (Kd.S_below (Xq HO_425002) hb)
             replace HO458 := Aside0.mk (Kd.S_below (Xq HO458) hb)
             replace HO461 := Aside0.mk (Kd.R_below (Xq HO461) hb)
             replace BK400 := Xbb BK400 hb
             replace BK401 := Xbb BK401 hb
             replace BK424 := Xbb BK424 hb
             replace HB := Aside0.mk (below_step Xi hb)
             (try clear hb)
             (try clear hb2)
             (try clear hk)
             (try clear hi)
             obtain ⟨Ao103, co103, eo103⟩ := Kd.S_slice HO458.out
             (first | subst eo103 | (injection eo103 with f1_ f2_ f3_; have f4_ := f1_.symm; have f5_ := f3_.symm; clear f1_ f2_ f3_; subst f4_; subst f5_))
             obtain ⟨Ao104, co104, eo104⟩ := Kd.R_slice HO461.out
             (first | subst eo104 | (injection eo104 with f1_ f2_ f3_; have f4_ := f1_.symm; have f5_ := f3_.symm; clear f1_ f2_ f3_; subst f4_; subst f5_))
             refine hK.out _ _ ⟨(blk_cell BK400.out 0).trans rfl, (blk_cell BK400.out 1).trans rfl, (blk_cell BK400.out 2).trans rfl, (blk_cell BK401.out 0).trans rfl, (blk_cell BK401.out 1).trans rfl, (blk_cell BK401.out 2).trans rfl⟩ (fun hHeld => ?_)
             clear hK K
             refine Xno ?_
             refine one_ (i := 6) (N := some 107) (XW.bs 12 127) rfl rfl (one_of HT_.out (by kernel_rfl)) (by decide) (fun K hK => ?_)
             refine goes_ Try.func14 (by kernel_rfl) rfl #[.agg #[.int .i64 t454, .int .i64 t455, .slice Ao103 t456.length co103], .slice Ao104 t459.length co104, .agg #[.int .i64 t462, .int .i64 t463, .int .i64 t464]] (by rfl) rfl rfl (by (try simp only [List.map_toArray, List.map_cons, List.map_nil]); first | done | rfl | (simp only [List.length_drop, List.length_take]; rfl)) ?_
             with_reducible refine (impl_PutHold.calls kj70 t454 t455 _ _ t456 _ _ t459 t462 t463 t464 t465 t468 _ ?side1 ?side2 ?side3 ?side4 A97.out).mono ?_
             (case side1 => repeat (first | exact (Kd.S_reads' HO458.out).2.2 | (with_reducible first | refine Kd.C_alloc ?_ _ | refine Kd.C_drewN ?_ _ | refine Kd.C_drew ?_)))
             (case side2 => exact (Kd.S_reads' HO458.out).2.1)
             (case side3 => repeat (first | exact (Kd.R_reads' HO461.out).2.2 | (with_reducible first | refine Kd.C_alloc ?_ _ | refine Kd.C_drewN ?_ _ | refine Kd.C_drew ?_)))
             (case side4 => exact (Kd.R_reads' HO461.out).2.1)
             rintro e w105 ⟨v466, rfl, ho0, hb⟩
             refine ⟨_, rfl, ?_⟩
             replace HO_425002 := Aside0.mk (Kd.S_below (Xq HO_425002) hb)
             replace HO458 := Aside0.mk (Kd.S_below (Xq HO458) hb)
             have HO467 := Aside0.mk (Kd.R_lower (Kd.R_new' (Kd.R_new' (Kd.R_new' ho0 (Kd.R_lt (Xq HO_8))) (Kd.R_lt (Xq HO_12))) (Kd.R_lt (Xq HO461))) (below_size Xi))
             replace HO_8 := Aside0.mk (Kd.R_elder' (Xq HO_8) (Kd.R_base ho0) hb)
             replace HO_12 := Aside0.mk (Kd.R_elder' (Xq HO_12) (Kd.R_base ho0) hb)
             replace HO461 := Aside0.mk (Kd.R_elder' (Xq HO461) (Kd.R_base ho0) hb)
             replace BK400 := Xbb BK400 hb
             replace BK401 := Xbb BK401 hb
             replace BK424 := Xbb BK424 hb
             replace HB := Aside0.mk (below_step Xi hb)
             (try clear hb)
             (try clear hb2)
             (try clear hk)
             (try clear hi)
             (try clear ho0)
             refine hK.out _ _ ⟨(blk_cell BK400.out 0).trans rfl, (blk_cell BK400.out 1).trans rfl, (blk_cell BK400.out 2).trans rfl, (blk_cell BK401.out 0).trans rfl, (blk_cell BK401.out 1).trans rfl, (blk_cell BK401.out 2).trans rfl⟩ (fun hHeld => ?_)
             clear hK K
             refine Xno ?_
             refine Xpu 7 100 (XW.bs 12 255) HT_.out ?_
             refine Xpu 8 108 (XW.bs 12 511) HT_.out ?_
             refine Xpu 9 109 (XW.bs 12 1023) HT_.out ?_
             refine Xpu 10 17 (XW.bs 12 2047) HT_.out ?_
             refine Xpu 11 18 (XW.bs 12 4095) HT_.out ?_
             refine done_ (done_of HT_.out (by kernel_rfl)) ?_
             go_upto_region 32 with (fail)
             go_cut [118] (fun v118 wc => ∃ (kq : Nat) (x118_97 : Bool), v118 = .bool x118_97 ∧ Aside0 (laws_FnExactPutHold.j2 kq t452 t451 x118_97 = some true) ∧ Aside0 (kq ≤ kj70) ∧ Aside0 (Kd.R k38 38 wc w.heap.size (fun _ => True) (.slice Ao90 t431.length co90) t452) ∧ Aside0 (Kd.S k64 64 wc w.heap.size (fun _ => True) (.slice Ao38 t447.length co38) t447) ∧ Aside0 (wc.heap[gb400]? = some (.cells #[.int .i64 a0_0, .int .i64 a0_1, (.slice A0_2 l0_2.length c0_2)] 24 (0, 0))) ∧ Aside0 (wc.heap[gb401]? = some (.cells #[.int .i64 a2_0, .int .i64 a2_1, .int .i64 a2_2] 27 (0, 0))) ∧ Aside0 (wc.heap[gb424]? = some (.cells #[.int .i64 t419, .int .i64 t420, (.slice Ao38 t447.length co38)] 35 (0, 0))) ∧ Aside0 (Below w.heap.size w wc))
             case first =>
              have H := HC98.out
              clear HC98
              obtain ⟨t469, A106, H⟩ := Xbi H
              (try dsimp only at H)
              by_cases c107 : t469 = true
              ·subst c107
               (first | rw [if_pos rfl] at H | skip)
               have H' := Aside0.mk H
               clear H
               obtain ⟨Ao108, co108, eo108⟩ := Kd.R_slice HO467.out
               subst eo108
               obtain ⟨Ao109, co109, eo109⟩ := Kd.R_slice HO_8.out
               subst eo109
               go_wp2_with (first | ((with_reducible refine gate_callee (f := 15) rfl ?_); refine Xgo 112 Try.func15 #[.slice Ao108 t465.length co108, .slice Ao109 t415.length co109] ?_; (with_reducible refine (laws_eqHoldS.calls kj70 _ _ t465 _ _ t415 true _ ?side1 ?side2 ?side3 ?side4 A106.out).mono ?_); (case side1 => repeat (first | exact (Kd.R_reads' HO467.out).2.2 | (with_reducible first | refine Kd.C_alloc ?_ _ | refine Kd.C_drewN ?_ _ | refine Kd.C_drew ?_))); (case side2 => exact (Kd.R_reads' HO467.out).2.1); (case side3 => repeat (first | exact (Kd.R_reads' HO_8.out).2.2 | (with_reducible first | refine Kd.C_alloc ?_ _ | refine Kd.C_drewN ?_ _ | refine Kd.C_drew ?_))); (case side4 => exact (Kd.R_reads' HO_8.out).2.1); rintro e w110 ⟨rfl, hb⟩; refine ⟨_, rfl, ?_⟩; replace HO_8 := Aside0.mk (Kd.R_below (Xq HO_8) hb); replace HO_12 := Aside0.mk (Kd.R_below (Xq HO_12) hb); replace HO_425002 := Aside0.mk (Kd.S_below (Xq HO_425002) hb); replace HO458 := Aside0.mk (Kd.S_below (Xq HO458) hb); replace HO461 := Aside0.mk (Kd.R_below (Xq HO461) hb); replace HO467 := Aside0.mk (Kd.R_below (Xq HO467) hb); replace BK400 := Xbb BK400 hb; replace BK401 := Xbb BK401 hb; replace BK424 := Xbb BK424 hb; replace HB := Aside0.mk (below_step Xi hb); clear hb))
               go_meet
               case rel => exact ⟨_, ((t468 != t418)), Xr, H', ⟨by have := HJ22.out; have := HJ70.out; first | omega | exact Nat.le_refl _⟩, ⟨by (try simp only [hl425002_70]); (with_reducible repeat (first | apply Kd.R_alloc | apply Kd.R_drewN | apply Kd.R_drew)); exact Kd.R_mono HO_12.out (fun _ hk => trivial)⟩, ⟨by (try simp only [hl425002_70]); (with_reducible repeat (first | apply Kd.S_alloc | apply Kd.S_drewN | apply Kd.S_drew)); exact Kd.S_mono HO_425002.out (fun _ hk => trivial)⟩, ⟨by (try simp only [hl425002_70]); exact BK400.out⟩, ⟨by (try simp only [hl425002_70]); exact BK401.out⟩, ⟨by (try simp only [hl425002_70]); exact BK424.out⟩, ⟨Xi⟩⟩
              ·replace c107 := Bool.eq_false_iff.mpr c107
               subst c107
               (first | rw [if_neg (show ¬ (false = true) by decide)] at H | skip)
               have H' := Aside0.mk H
               clear H
               obtain ⟨Ao111, co111, eo111⟩ := Kd.R_slice HO467.out
               subst eo111
               obtain ⟨Ao112, co112, eo112⟩ := Kd.R_slice HO_8.out
               subst eo112
               go_wp2_with (first | ((with_reducible refine gate_callee (f := 15) rfl ?_); refine Xgo 112 Try.func15 #[.slice Ao111 t465.length co111, .slice Ao112 t415.length co112] ?_; (with_reducible refine (laws_eqHoldS.calls kj70 _ _ t465 _ _ t415 false _ ?side1 ?side2 ?side3 ?side4 A106.out).mono ?_); (case side1 => repeat (first | exact (Kd.R_reads' HO467.out).2.2 | (with_reducible first | refine Kd.C_alloc ?_ _ | refine Kd.C_drewN ?_ _ | refine Kd.C_drew ?_))); (case side2 => exact (Kd.R_reads' HO467.out).2.1); (case side3 => repeat (first | exact (Kd.R_reads' HO_8.out).2.2 | (with_reducible first | refine Kd.C_alloc ?_ _ | refine Kd.C_drewN ?_ _ | refine Kd.C_drew ?_))); (case side4 => exact (Kd.R_reads' HO_8.out).2.1); rintro e w113 ⟨rfl, hb⟩; refine ⟨_, rfl, ?_⟩; replace HO_8 := Aside0.mk (Kd.R_below (Xq HO_8) hb); replace HO_12 := Aside0.mk (Kd.R_below (Xq HO_12) hb); replace HO_425002 := Aside0.mk (Kd.S_below (Xq HO_425002) hb); replace HO458 := Aside0.mk (Kd.S_below (Xq HO458) hb); replace HO461 := Aside0.mk (Kd.R_below (Xq HO461) hb); replace HO467 := Aside0.mk (Kd.R_below (Xq HO467) hb); replace BK400 := Xbb BK400 hb; replace BK401 := Xbb BK401 hb; replace BK424 := Xbb BK424 hb; replace HB := Aside0.mk (below_step Xi hb); clear hb))
               go_meet
               case rel => exact ⟨_, (true), Xr, H', ⟨by have := HJ22.out; have := HJ70.out; first | omega | exact Nat.le_refl _⟩, ⟨by (try simp only [hl425002_70]); (with_reducible repeat (first | apply Kd.R_alloc | apply Kd.R_drewN | apply Kd.R_drew)); exact Kd.R_mono HO_12.out (fun _ hk => trivial)⟩, ⟨by (try simp only [hl425002_70]); (with_reducible repeat (first | apply Kd.S_alloc | apply Kd.S_drewN | apply Kd.S_drew)); exact Kd.S_mono HO_425002.out (fun _ hk => trivial)⟩, ⟨by (try simp only [hl425002_70]); exact BK400.out⟩, ⟨by (try simp only [hl425002_70]); exact BK401.out⟩, ⟨by (try simp only [hl425002_70]); exact BK424.out⟩, ⟨Xi⟩⟩
             case rest =>
              clear HC98
              (try clear c1); (try clear c11); (try clear c11b0); (try clear c14); (try clear c14b0); (try clear c53); (try clear c61); (try clear c68); (try clear c86); (try clear c92); (try clear c92b0); (try clear c93); (try clear c93b0); (try clear c93b1); (try clear hcz32_0); (try clear hcz32_1); (try clear hcz32_2); (try clear hcz37_0); (try clear hcz37_1); (try clear hcz37_2); (try clear hcz74_0); (try clear hcz74_1); (try clear hcz74_2); (try clear hcz9_0); (try clear hcz9_1); (try clear hcz9_2); (try clear hfz32_0); (try clear hfz32_1); (try clear hfz32_2); (try clear hfz37_0); (try clear hfz37_1); (try clear hfz37_2); (try clear hfz74_0); (try clear hfz74_1); (try clear hfz74_2); (try clear hfz9_0); (try clear hfz9_1); (try clear hfz9_2)
              (try clear HO_12); (try clear HO_425002)
              obtain ⟨kq, x118_97, rfl, HA, HJ97, HO_12, HO_425002, BK400, BK401, BK424, HB⟩ := hcut
              have hl12_97 := (Kd.R_reads' HO_12.out).1
              rw [hl12_97] at HO_12
              (try simp only [hl12_97])
              (try simp only [hl12_97] at BK400)
              (try simp only [hl12_97] at BK401)
              (try simp only [hl12_97] at BK424)
              (try simp only [hl12_97] at HO_425002)
              cases kq with
              | zero => cases HA.out
              | succ kj97 =>
               have H := HA.out
               clear HA
               simp only [laws_FnExactPutHold.j2] at H
               by_cases c114 : x118_97 = true
               ·subst c114
                (first | rw [if_pos rfl] at H | skip)
                cases H
               ·replace c114 := Bool.eq_false_iff.mpr c114
                subst c114
                (first | rw [if_neg (show ¬ (false = true) by decide)] at H | skip)
                obtain ⟨t470, A115, H⟩ := Xbi H
                (try dsimp only at H)
                have HC116 := Aside0.mk H
                clear H
                go_upto_if 123 with (first | ((with_reducible refine gate_callee (f := 19) rfl ?_); refine Xgo 121 Try.func19 #[.slice Ao90 t452.length co90, .int .i64 1] ?_; (with_reducible refine (laws_heldHoldS.calls kj97 _ _ t452 1 t470 _ ?side1 ?side2 A115.out).mono ?_); (case side1 => repeat (first | exact (Kd.R_reads' HO_12.out).2.2 | (with_reducible first | refine Kd.C_alloc ?_ _ | refine Kd.C_drewN ?_ _ | refine Kd.C_drew ?_))); (case side2 => exact (Kd.R_reads' HO_12.out).2.1); rintro e w' ⟨rfl, ⟨nd, rfl⟩⟩; refine ⟨_, rfl, ?_⟩))
                (try (rw [drewN_self wc]; generalize hq_ : World.drewN wc _ = wc; have n0_ : Aside0 (Kd.R k38 38 wc w.heap.size (fun _ => True) (.slice Ao90 t452.length co90) t452) := ⟨by rw [← hq_]; exact (Xq HO_12)⟩; have n1_ : Aside0 (Kd.S k64 64 wc w.heap.size (fun _ => True) (.slice Ao38 t447.length co38) t447) := ⟨by rw [← hq_]; exact (Xq HO_425002)⟩; have n2_ : Aside0 (wc.heap[gb400]? = some (.cells #[.int .i64 a0_0, .int .i64 a0_1, .slice A0_2 l0_2.length c0_2] 24 (0, 0))) := ⟨by rw [← hq_]; exact BK400.out⟩; have n3_ : Aside0 (wc.heap[gb401]? = some (.cells #[.int .i64 a2_0, .int .i64 a2_1, .int .i64 a2_2] 27 (0, 0))) := ⟨by rw [← hq_]; exact BK401.out⟩; have n4_ : Aside0 (wc.heap[gb424]? = some (.cells #[.int .i64 t419, .int .i64 t420, .slice Ao38 t447.length co38] 35 (0, 0))) := ⟨by rw [← hq_]; exact BK424.out⟩; have n5_ : Aside0 (Below w.heap.size w wc) := ⟨by rw [← hq_]; exact Xi⟩; clear HO_12 HO_425002 BK400 BK401 BK424 HB hq_; have HO_12 := n0_; have HO_425002 := n1_; have BK400 := n2_; have BK401 := n3_; have BK424 := n4_; have HB := n5_; clear n0_ n1_ n2_ n3_ n4_ n5_))
                have H := HC116.out
                clear HC116
                obtain ⟨c117b0, H⟩ | ⟨c117b0, H⟩ := Xit H
                ·(first | rw [c117b0] | (simp only [i64_w, i32_w]; rw [c117b0]) | skip)
                 cases H
                ·(first | rw [c117b0] | (simp only [i64_w, i32_w]; rw [c117b0]) | skip)
                 obtain ⟨c118, H⟩ | ⟨c118, H⟩ := Xiu H
                 ·have c118b0 : (t470 == t451) = true := beq_iff_eq.mpr c118
                  have c118b1 : (t470 != t451) = false := bne_eq_false_iff_eq.mpr c118
                  clear c118
                  go_wp2
                  go_ret
                  exact ⟨Xe, Xi⟩
                 ·have c118b0 : (t470 == t451) = false := beq_eq_false_iff_ne.mpr c118
                  have c118b1 : (t470 != t451) = true := bne_iff_ne.mpr c118
                  cases H
            ·have c93b0 : (t453 == t451) = false := beq_eq_false_iff_ne.mpr c93
             have c93b1 : (t453 != t451) = true := bne_iff_ne.mpr c93
             cases H
       ·replace c68 := Bool.eq_false_iff.mpr c68
        subst c68
        (first | rw [if_neg (show ¬ (false = true) by decide)] at H | skip)
        cases H
      ·replace c61 := Bool.eq_false_iff.mpr c61
       subst c61
       (first | rw [if_neg (show ¬ (false = true) by decide)] at H | skip)
       cases H

end Go.Proofs.Ytocelbmpnjnnbaa.XA
