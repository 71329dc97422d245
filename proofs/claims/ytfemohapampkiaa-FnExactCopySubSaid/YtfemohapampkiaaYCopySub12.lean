/- Contracts of the program's functions: each Go function that is named below comes to what its Lean function says. Written by xprint.py (a program of this session's, over the kit's print). Conditions: each contract's own premises. -/
import Derived.Test.YtfemohapampkiaaYCopySub0
import Derived.Test.YtfemohapampkiaaYCopySub1
import Derived.Test.YtfemohapampkiaaYCopySub2
import Derived.Test.YtfemohapampkiaaYCopySub7
import Derived.Test.YtfemohapampkiaaYCopySub10
import Derived.Test.YtfemohapampkiaaYCopySub11
import Derived.Test.YtfemohapampkiaaYCopySubMarkDoc
namespace Go.Proofs.Ytfemohapampkiaa.XA
open Go.RowKit Go.Proofs.YtfemohapampkiaaW.PrintWords Go.Proofs.YtfemohapampkiaaW.PrintLast Go.Proofs.YtfemohapampkiaaW.PrintMore XW
attribute [local go_sem] max2_int min2_int max_two min_two max_three min_three max_four min_four   -- for this text's walks alone
set_option linter.unusedVariables false
set_option linter.unusedSimpArgs false

/-! ### laws_FnExactCopySub: function 6 -/
mutual
def laws_FnExactCopySub.j0 : Nat → Int → Int → Int → Bool → Int → Int → List (S138) → Int → Int → List (S88) → Int → Int → List (S88) → Int → Int → List (S88) → Option (Bool)
 | 0, _, _, _, _, _, _, _, _, _, _, _, _, _, _, _, _ => none
 | k + 1, x1, x7, x10, x44, x355000, x355001, x355002, x368000, x368001, x368002, x374000, x374001, x374002, x381000, x381001, x381002 => if x44 = true then (some false) else ((laws_toDoc.f k x355000 x355001 x355002).bind fun bt382 => ((laws_eqDoc.f k x374000 x374001 x374002 bt382.1 bt382.2.1 bt382.2.2).bind fun t387 => (if t387 = true then ((laws_markDoc.f k x374000 x374001 x374002 1).bind fun bt388 => (if bt388.1 < 0 then (laws_FnExactCopySub.j1 k x1 x7 true x355000 x355001 x355002 x368000 x368001 x368002 x381000 x381001 x381002) else ((laws_eqDoc.f k x381000 x381001 x381002 x368000 x368001 x368002).bind fun t390 => (if t390 = true then (laws_FnExactCopySub.j1 k x1 x7 (x10 != x7) x355000 x355001 x355002 x368000 x368001 x368002 x381000 x381001 x381002) else (laws_FnExactCopySub.j1 k x1 x7 true x355000 x355001 x355002 x368000 x368001 x368002 x381000 x381001 x381002))))) else (some false))))
def laws_FnExactCopySub.j1 : Nat → Int → Int → Bool → Int → Int → List (S138) → Int → Int → List (S88) → Int → Int → List (S88) → Option (Bool)
 | 0, _, _, _, _, _, _, _, _, _, _, _, _ => none
 | k + 1, x1, x7, x65, x355000, x355001, x355002, x368000, x368001, x368002, x381000, x381001, x381002 => if x65 = true then (some false) else ((laws_markDoc.f k x381000 x381001 x381002 1).bind fun bt391 => ((laws_heldDoc.f k x381000 x381001 bt391.2 1).bind fun t393 => (if t393 < 0 then (some false) else (if t393 = bt391.1 then ((laws_toDoc.f k x355000 x355001 x355002).bind fun bt394 => ((impl_CopySub.f k bt394.1 bt394.2.1 bt394.2.2 x1).bind fun bt399 => ((laws_eqDoc.f k bt399.1 bt399.2.1 bt399.2.2.1 x368000 x368001 x368002).bind fun t406 => (if t406 = true then (laws_FnExactCopySub.j2 k bt391.1 (bt399.2.2.2 != x7) x381000 x381001 bt391.2) else (laws_FnExactCopySub.j2 k bt391.1 true x381000 x381001 bt391.2))))) else (some false)))))
def laws_FnExactCopySub.j2 : Nat → Int → Bool → Int → Int → List (S88) → Option (Bool)
 | 0, _, _, _, _, _ => none
 | k + 1, x12, x92, x381000, x381001, x381002 => if x92 = true then (some false) else ((laws_heldDoc.f k x381000 x381001 x381002 1).bind fun t407 => (if t407 < 0 then (some false) else (if t407 = x12 then (some true) else (some false))))
end
def laws_FnExactCopySub.f (k : Nat) (a0_0 : Int) (a0_1 : Int) (l0_2 : List (S138)) (a1 : Int) : Option (Bool) := (laws_szDoc.f k a0_0 a0_1 l0_2 1048576).bind fun t355 => (if t355 < 0 then (some true) else ((laws_toDoc.f k a0_0 a0_1 l0_2).bind fun bt356 => ((spec_CopySub.f k bt356.1 bt356.2.1 bt356.2.2 a1).bind fun bt361 => ((laws_toDoc.f k a0_0 a0_1 l0_2).bind fun bt368 => ((impl_CopySub.f k bt368.1 bt368.2.1 bt368.2.2 a1).bind fun bt374 => ((laws_eqDoc.f k bt374.1 bt374.2.1 bt374.2.2.1 bt361.1 bt361.2.1 bt361.2.2.1).bind fun t381 => (if t381 = true then (laws_FnExactCopySub.j0 k a1 bt361.2.2.2 bt374.2.2.2 (bt374.2.2.2 != bt361.2.2.2) a0_0 a0_1 l0_2 bt361.1 bt361.2.1 bt361.2.2.1 bt368.1 bt368.2.1 bt368.2.2 bt374.1 bt374.2.1 bt374.2.2.1) else (laws_FnExactCopySub.j0 k a1 bt361.2.2.2 bt374.2.2.2 true a0_0 a0_1 l0_2 bt361.1 bt361.2.1 bt361.2.2.1 bt368.1 bt368.2.1 bt368.2.2 bt374.1 bt374.2.1 bt374.2.2.1))))))))
set_option maxHeartbeats 8000000 in
set_option maxRecDepth 100000 in
theorem laws_FnExactCopySub.calls (k : Nat) (a0_0 : Int) (a0_1 : Int) (A0_2 : Option Addr) (c0_2 : Nat) (l0_2 : List (S138)) (a1 : Int) (r : Bool) (w : World) (hr0_2 : Kd.C k138 w A0_2 l0_2.length l0_2) (hc0_2 : l0_2.length ≤ c0_2) (hr_ : r = true) (h : laws_FnExactCopySub.f k a0_0 a0_1 l0_2 a1 = some r) :
  Calls Try.prog 6 #[.agg #[.int .i64 a0_0, .int .i64 a0_1, .slice A0_2 l0_2.length c0_2], .int .i64 a1] w fun e w' => e = .returned (.bool r) ∧ Below w.heap.size w w' := by
 subst hr_
 have hu24 := Try.underlying24
 have hu29 := Try.underlying29
 have HR0_2 := Aside0.mk hr0_2
 have HC0_2 := Aside0.mk hc0_2
 clear hr0_2 hc0_2
 have HB := Aside0.mk (Below.refl w.heap.size w)
 have H : ((laws_szDoc.f k a0_0 a0_1 l0_2 1048576).bind fun t355 => (if t355 < 0 then (some true) else ((laws_toDoc.f k a0_0 a0_1 l0_2).bind fun bt356 => ((spec_CopySub.f k bt356.1 bt356.2.1 bt356.2.2 a1).bind fun bt361 => ((laws_toDoc.f k a0_0 a0_1 l0_2).bind fun bt368 => ((impl_CopySub.f k bt368.1 bt368.2.1 bt368.2.2 a1).bind fun bt374 => ((laws_eqDoc.f k bt374.1 bt374.2.1 bt374.2.2.1 bt361.1 bt361.2.1 bt361.2.2.1).bind fun t381 => (if t381 = true then (laws_FnExactCopySub.j0 k a1 bt361.2.2.2 bt374.2.2.2 (bt374.2.2.2 != bt361.2.2.2) a0_0 a0_1 l0_2 bt361.1 bt361.2.1 bt361.2.2.1 bt368.1 bt368.2.1 bt368.2.2 bt374.1 bt374.2.1 bt374.2.2.1) else (laws_FnExactCopySub.j0 k a1 bt361.2.2.2 bt374.2.2.2 true a0_0 a0_1 l0_2 bt361.1 bt361.2.1 bt361.2.2.1 bt368.1 bt368.2.1 bt368.2.2 bt374.1 bt374.2.1 bt374.2.2.1))))))))) = some true := h
 clear h
 obtain ⟨t355, A3, H⟩ := Xbi H
 (try dsimp only at H)
 have HC4 := Aside0.mk H
 clear H
 go_enter Try.func6, Try.ntmps6
 go_upto_if 20 with (first | ((with_reducible refine gate_dst (N := 2) rfl ?_); refine Xbox 2 #[.int .i64 a0_0, .int .i64 a0_1, .slice A0_2 l0_2.length c0_2] 24 ?_; intro gb354 hg w5 hbox hb; have BK354 := Aside0.mk (hbox); have GE354 := Xge hg Xi; replace HB := Aside0.mk (below_step Xi hb); clear hb hbox hg; obtain ⟨hcz6_0, hcz6_1, hcz6_2⟩ := Xc3 BK354; obtain ⟨hfz6_0, hfz6_1, hfz6_2⟩ := Xf3 BK354) | ((with_reducible refine gate_callee (f := 13) rfl ?_); refine Xgo 18 Try.func13 #[.agg #[.int .i64 a0_0, .int .i64 a0_1, .slice A0_2 l0_2.length c0_2], .int .i64 1048576] ?_; (with_reducible refine (laws_szDoc.calls k a0_0 a0_1 _ _ l0_2 1048576 t355 _ ?side1 ?side2 A3.out).mono ?_); (case side1 => exact Xc HR0_2); (case side2 => exact HC0_2.out); rintro e w7 ⟨rfl, hb⟩; refine ⟨_, rfl, ?_⟩; replace BK354 := Xbb BK354 hb; replace HB := Aside0.mk (below_step Xi hb); clear hb))
 have H := HC4.out
 clear HC4
 obtain ⟨c8b0, H⟩ | ⟨c8b0, H⟩ := Xit H
 ·(first | rw [c8b0] | (simp only [i64_w, i32_w]; rw [c8b0]) | skip)
  go_wp2
  go_ret
  exact ⟨Xe, Xi⟩
 ·(first | rw [c8b0] | (simp only [i64_w, i32_w]; rw [c8b0]) | skip)
  replace H := Option.bind_eq_some_iff.mp H
  obtain ⟨⟨t356, t357, t358⟩, A90, H⟩ := H
  (try dsimp only at H)
  have A9 := Aside0.mk A90
  clear A90
  replace H := Option.bind_eq_some_iff.mp H
  obtain ⟨⟨t361, t362, t363, t366⟩, A100, H⟩ := H
  (try dsimp only at H)
  have A10 := Aside0.mk A100
  clear A100
  replace H := Option.bind_eq_some_iff.mp H
  obtain ⟨⟨t368, t369, t370⟩, A110, H⟩ := H
  (try dsimp only at H)
  have A11 := Aside0.mk A110
  clear A110
  replace H := Option.bind_eq_some_iff.mp H
  obtain ⟨⟨t374, t375, t376, t379⟩, A120, H⟩ := H
  (try dsimp only at H)
  have A12 := Aside0.mk A120
  clear A120
  have HC13 := Aside0.mk H
  clear H
  obtain ⟨hcz14_0, hcz14_1, hcz14_2⟩ := Xc3 BK354
  obtain ⟨hfz14_0, hfz14_1, hfz14_2⟩ := Xf3 BK354
  go_upto_region 8 with (first | ((with_reducible refine gate_callee (f := 15) rfl ?_); refine Xgo 23 Try.func15 #[.agg #[.int .i64 a0_0, .int .i64 a0_1, .slice A0_2 l0_2.length c0_2]] ?_; (with_reducible refine (laws_toDoc.calls k a0_0 a0_1 _ _ l0_2 t356 t357 t358 _ ?side1 ?side2 A9.out).mono ?_); (case side1 => exact Xc HR0_2); (case side2 => exact HC0_2.out); rintro e w15 ⟨v359, rfl, ho0, hb⟩; refine ⟨_, rfl, ?_⟩; obtain ⟨z1_, hzz1_⟩ := XR.zat ho0; have HO360 := Aside0.mk (Kd.S_lower (XR.S_newZ ho0 hzz1_) (below_size Xi)); replace BK354 := Xbb BK354 hb; replace HB := Aside0.mk (below_step Xi hb); clear hb; (try clear ho0); (try clear hzz1_); obtain ⟨Ao16, co16, eo16⟩ := Kd.S_slice HO360.out; subst eo16) | ((with_reducible refine gate_callee (f := 26) rfl ?_); refine Xgo 25 Try.func26 #[.agg #[.int .i64 t356, .int .i64 t357, .slice Ao16 t358.length co16], .int .i64 a1] ?_; (with_reducible refine (spec_CopySub.calls k t356 t357 (fun k_ => ((True ∧ k_ ≠ XR.zge z1_ k_) ∧ k_ ≠ gb354)) _ _ t358 a1 t361 t362 t363 t366 _ ?side1 A10.out).mono ?_); (case side1 => exact Kd.S_V (Kd.S_types (HO360.out) BK354.out (by decide))); rintro e w17 ⟨v364, rfl, ho0, hb⟩; refine ⟨_, rfl, ?_⟩; replace HO360 := Aside0.mk (Kd.S_elder' (Xq HO360) (Kd.N_base ho0) hb); have HO365 := Aside0.mk (Kd.N_lower (Kd.N_mono (ok' := fun k_ => k_ ≠ gb354) ho0 (fun k_ hk_ => Or.elim hk_ (fun hs_ => hs_.2) (fun hn_ => (Kd.freshB (g := gb354) (o := .cells #[.int .i64 a0_0, .int .i64 a0_1, .slice A0_2 l0_2.length c0_2] 24 (0, 0)) BK354.out k_ hn_)))) (below_size Xi)); replace BK354 := Xbb BK354 hb; replace HB := Aside0.mk (below_step Xi hb); clear hb; (try clear ho0)) | ((with_reducible refine gate_dst (N := 6) rfl ?_); refine Xbox 6 #[.int .i64 0, .int .i64 0, .slice none 0 0] 29 ?_; intro gb367 hg w18 hbox hb; replace HO360 := Aside0.mk (Kd.S_below (Xq HO360) hb); replace HO365 := Aside0.mk (Kd.N_below (Kd.N_elderB (Xq HO365) gb367 (Nat.le_of_eq hg.symm)) hb); have BK367 := Aside0.mk (hbox); have GE367 := Xge hg Xi; replace HB := Aside0.mk (below_step Xi hb); have NB354_367 := Xnb hg BK354; have NB367_354 := Xns NB354_367; replace BK354 := Xbb BK354 hb; clear hb hbox hg; have hnb19 := NB367_354.out; have hnc19 := NB354_367.out; obtain ⟨hcz20_0, hcz20_1, hcz20_2⟩ := Xc3 BK367; obtain ⟨hfz20_0, hfz20_1, hfz20_2⟩ := Xf3 BK367; obtain ⟨Ao21, co21, eo21⟩ := Kd.N_slice HO365.out; subst eo21) | ((with_reducible refine gate_store (t := 29) (p := 6) rfl ?_); refine store_event (t := 29) (p := 6) (v := ?vo_w22) (w1 := (((w18.setCell ⟨gb367, 0, none⟩ (.int .i64 t361)).setCell ⟨gb367, 1, none⟩ (.int .i64 t362)).setCell ⟨gb367, 2, none⟩ (.slice Ao21 t363.length co21))) ?hg ?ho ?hn ?hr ?_; (case ho => rfl); (case hg => rfl); (case hn => rfl); (case hr => first | (go_simp; done) | (go_simp; rfl)); intro w22 hw; have n0_ : Aside0 (Kd.S k88 88 w22 w.heap.size (fun k_ => some k_ ≠ (.slice Ao21 t363.length co21 : Value).ownBlock ∧ k_ ≠ XR.zge z1_ k_) (.slice Ao16 t358.length co16) t358) := ⟨(by rw [hw]; exact (by (with_reducible repeat (first | apply Kd.S_alloc | apply Kd.S_drewN | apply Kd.S_drew)); exact Kd.S_mono (Kd.S_far (p := ⟨gb367, 2, none⟩) (Kd.S_far (p := ⟨gb367, 1, none⟩) (Kd.S_far (p := ⟨gb367, 0, none⟩) (Kd.S_types HO360.out BK367.out (by decide)) (fun _ hk => hk.2) (.int .i64 t361)) (fun _ hk => hk.2) (.int .i64 t362)) (fun _ hk => hk.2) (.slice Ao21 t363.length co21)) (fun _ hk => ⟨hk.1.2, hk.1.1.2⟩)))⟩; have n1_ : Aside0 (Kd.N k88 88 w22 w.heap.size (fun k_ => k_ ≠ gb354 ∧ k_ ≠ gb367) (.slice Ao21 t363.length co21) t363) := ⟨(by rw [hw]; exact (by (with_reducible repeat (first | apply Kd.N_alloc | apply Kd.N_drewN | apply Kd.N_drew)); exact Kd.N_mono (Kd.N_far (p := ⟨gb367, 2, none⟩) (Kd.N_far (p := ⟨gb367, 1, none⟩) (Kd.N_far (p := ⟨gb367, 0, none⟩) (Kd.N_mono HO365.out (fun k_ hk => (⟨hk, hk.2⟩ : _ ∧ k_ ≠ gb367))) (fun _ hk => hk.2) (.int .i64 t361)) (fun _ hk => hk.2) (.int .i64 t362)) (fun _ hk => hk.2) (.slice Ao21 t363.length co21)) (fun _ hk => ⟨hk.1.1, hk.1.2⟩)))⟩; have n2_ : Aside0 (w22.heap[gb354]? = some (.cells #[.int .i64 a0_0, .int .i64 a0_1, .slice A0_2 l0_2.length c0_2] 24 (0, 0))) := ⟨(by rw [hw]; exact (by (with_reducible repeat (first | refine blk_drewN ?_ _ | refine blk_drew ?_ | refine blk_alloc ?_ _)); refine blk_far ?_ NB354_367.out _; (with_reducible repeat (first | refine blk_drewN ?_ _ | refine blk_drew ?_ | refine blk_alloc ?_ _)); refine blk_far ?_ NB354_367.out _; (with_reducible repeat (first | refine blk_drewN ?_ _ | refine blk_drew ?_ | refine blk_alloc ?_ _)); refine blk_far ?_ NB354_367.out _; (with_reducible repeat (first | refine blk_drewN ?_ _ | refine blk_drew ?_ | refine blk_alloc ?_ _)); exact BK354.out))⟩; have n3_ : Aside0 (w22.heap[gb367]? = some (.cells #[.int .i64 t361, .int .i64 t362, .slice Ao21 t363.length co21] 29 (0, 0))) := ⟨(by rw [hw]; exact (by (with_reducible repeat (first | refine blk_drewN ?_ _ | refine blk_drew ?_ | refine blk_alloc ?_ _)); refine blk_put (cs := #[.int .i64 t361, .int .i64 t362, .slice none 0 0]) ?_ 2 _ rfl; (with_reducible repeat (first | refine blk_drewN ?_ _ | refine blk_drew ?_ | refine blk_alloc ?_ _)); refine blk_put (cs := #[.int .i64 t361, .int .i64 0, .slice none 0 0]) ?_ 1 _ rfl; (with_reducible repeat (first | refine blk_drewN ?_ _ | refine blk_drew ?_ | refine blk_alloc ?_ _)); refine blk_put (cs := #[.int .i64 0, .int .i64 0, .slice none 0 0]) ?_ 0 _ rfl; (with_reducible repeat (first | refine blk_drewN ?_ _ | refine blk_drew ?_ | refine blk_alloc ?_ _)); exact BK367.out))⟩; have n4_ : Aside0 (Below w.heap.size w w22) := ⟨(by rw [hw]; exact Xi)⟩; clear hw; clear HO360; clear HO365; clear BK354; clear BK367; clear HB; have HO360 := n0_; have HO365 := n1_; have BK354 := n2_; have BK367 := n3_; have HB := n4_; clear n0_ n1_ n2_ n3_ n4_; obtain ⟨hcz23_0, hcz23_1, hcz23_2⟩ := Xc3 BK354; obtain ⟨hfz23_0, hfz23_1, hfz23_2⟩ := Xf3 BK354) | ((with_reducible refine gate_callee (f := 15) rfl ?_); refine Xgo 29 Try.func15 #[.agg #[.int .i64 a0_0, .int .i64 a0_1, .slice A0_2 l0_2.length c0_2]] ?_; (with_reducible refine (laws_toDoc.calls k a0_0 a0_1 _ _ l0_2 t368 t369 t370 _ ?side1 ?side2 A11.out).mono ?_); (case side1 => exact Xc HR0_2); (case side2 => exact HC0_2.out); rintro e w24 ⟨v371, rfl, ho0, hb⟩; refine ⟨_, rfl, ?_⟩; obtain ⟨z2_, hzz2_⟩ := XR.zat ho0; have HO372 := Aside0.mk (Kd.S_lower (Kd.S_new' (Kd.S_new' (XR.S_newZ ho0 hzz2_) (Kd.S_lt (Xq HO360))) (Kd.N_lt (Xq HO365))) (below_size Xi)); replace HO360 := Aside0.mk (XR.S_elderZ (Xq HO360) (Kd.S_base ho0) hb hzz2_); replace HO365 := Aside0.mk (XR.N_elderZ (Xq HO365) (Kd.S_base ho0) hb hzz2_); replace BK354 := Xbb BK354 hb; replace BK367 := Xbb BK367 hb; replace HB := Aside0.mk (below_step Xi hb); clear hb; (try clear ho0); (try clear hzz2_)) | ((with_reducible refine gate_dst (N := 8) rfl ?_); refine Xbox 8 #[.int .i64 0, .int .i64 0, .slice none 0 0] 29 ?_; intro gb373 hg w25 hbox hb; replace HO360 := Aside0.mk (Kd.S_below (Xq HO360) hb); replace HO365 := Aside0.mk (Kd.N_below (Kd.N_elderB (Xq HO365) gb373 (Nat.le_of_eq hg.symm)) hb); replace HO372 := Aside0.mk (Kd.S_below (Xq HO372) hb); have BK373 := Aside0.mk (hbox); have GE373 := Xge hg Xi; replace HB := Aside0.mk (below_step Xi hb); have NB354_373 := Xnb hg BK354; have NB373_354 := Xns NB354_373; replace BK354 := Xbb BK354 hb; have NB367_373 := Xnb hg BK367; have NB373_367 := Xns NB367_373; replace BK367 := Xbb BK367 hb; clear hb hbox hg; have hnb26 := NB373_354.out; have hnc26 := NB354_373.out; have hnb27 := NB373_367.out; have hnc27 := NB367_373.out; obtain ⟨hcz28_0, hcz28_1, hcz28_2⟩ := Xc3 BK373; obtain ⟨hfz28_0, hfz28_1, hfz28_2⟩ := Xf3 BK373; obtain ⟨Ao29, co29, eo29⟩ := Kd.S_slice HO372.out; subst eo29) | ((with_reducible refine gate_store (t := 29) (p := 8) rfl ?_); refine store_event (t := 29) (p := 8) (v := ?vo_w30) (w1 := (((w25.setCell ⟨gb373, 0, none⟩ (.int .i64 t368)).setCell ⟨gb373, 1, none⟩ (.int .i64 t369)).setCell ⟨gb373, 2, none⟩ (.slice Ao29 t370.length co29))) ?hg ?ho ?hn ?hr ?_; (case ho => rfl); (case hg => rfl); (case hn => rfl); (case hr => first | (go_simp; done) | (go_simp; rfl)); intro w30 hw; have n0_ : Aside0 (Kd.S k88 88 w30 w.heap.size (fun k_ => some k_ ≠ (.slice Ao21 t363.length co21 : Value).ownBlock ∧ some k_ ≠ (.slice Ao29 t370.length co29 : Value).ownBlock ∧ k_ ≠ XR.zge z1_ k_ ∧ k_ ≠ XR.zlt z2_ k_) (.slice Ao16 t358.length co16) t358) := ⟨(by rw [hw]; exact (by (with_reducible repeat (first | apply Kd.S_alloc | apply Kd.S_drewN | apply Kd.S_drew)); exact Kd.S_mono (Kd.S_far (p := ⟨gb373, 2, none⟩) (Kd.S_far (p := ⟨gb373, 1, none⟩) (Kd.S_far (p := ⟨gb373, 0, none⟩) (Kd.S_types HO360.out BK373.out (by decide)) (fun _ hk => hk.2) (.int .i64 t368)) (fun _ hk => hk.2) (.int .i64 t369)) (fun _ hk => hk.2) (.slice Ao29 t370.length co29)) (fun _ hk => ⟨hk.1.1.1.1, ⟨hk.1.1.2, ⟨hk.1.1.1.2, hk.1.2⟩⟩⟩)))⟩; have n1_ : Aside0 (Kd.N k88 88 w30 w.heap.size (fun k_ => some k_ ≠ (.slice Ao29 t370.length co29 : Value).ownBlock ∧ k_ ≠ gb354 ∧ k_ ≠ gb367 ∧ k_ ≠ XR.zlt z2_ k_ ∧ k_ ≠ gb373) (.slice Ao21 t363.length co21) t363) := ⟨(by rw [hw]; exact (by (with_reducible repeat (first | apply Kd.N_alloc | apply Kd.N_drewN | apply Kd.N_drew)); exact Kd.N_mono (Kd.N_far (p := ⟨gb373, 2, none⟩) (Kd.N_far (p := ⟨gb373, 1, none⟩) (Kd.N_far (p := ⟨gb373, 0, none⟩) (Kd.N_mono HO365.out (fun k_ hk => (⟨hk, hk.2⟩ : _ ∧ k_ ≠ gb373))) (fun _ hk => hk.2) (.int .i64 t368)) (fun _ hk => hk.2) (.int .i64 t369)) (fun _ hk => hk.2) (.slice Ao29 t370.length co29)) (fun _ hk => ⟨hk.1.1.1.2, ⟨hk.1.1.1.1.1, ⟨hk.1.1.1.1.2, ⟨hk.1.1.2, hk.1.2⟩⟩⟩⟩)))⟩; have n2_ : Aside0 (Kd.S k88 88 w30 w.heap.size (fun k_ => some k_ ≠ (.slice Ao16 t358.length co16 : Value).ownBlock ∧ some k_ ≠ (.slice Ao21 t363.length co21 : Value).ownBlock ∧ k_ ≠ XR.zge z2_ k_) (.slice Ao29 t370.length co29) t370) := ⟨(by rw [hw]; exact (by (with_reducible repeat (first | apply Kd.S_alloc | apply Kd.S_drewN | apply Kd.S_drew)); exact Kd.S_mono (Kd.S_far (p := ⟨gb373, 2, none⟩) (Kd.S_far (p := ⟨gb373, 1, none⟩) (Kd.S_far (p := ⟨gb373, 0, none⟩) (Kd.S_types HO372.out BK373.out (by decide)) (fun _ hk => hk.2) (.int .i64 t368)) (fun _ hk => hk.2) (.int .i64 t369)) (fun _ hk => hk.2) (.slice Ao29 t370.length co29)) (fun _ hk => ⟨hk.1.1.2, ⟨hk.1.2, hk.1.1.1.2⟩⟩)))⟩; have n3_ : Aside0 (w30.heap[gb354]? = some (.cells #[.int .i64 a0_0, .int .i64 a0_1, .slice A0_2 l0_2.length c0_2] 24 (0, 0))) := ⟨(by rw [hw]; exact (by (with_reducible repeat (first | refine blk_drewN ?_ _ | refine blk_drew ?_ | refine blk_alloc ?_ _)); refine blk_far ?_ NB354_373.out _; (with_reducible repeat (first | refine blk_drewN ?_ _ | refine blk_drew ?_ | refine blk_alloc ?_ _)); refine blk_far ?_ NB354_373.out _; (with_reducible repeat (first | refine blk_drewN ?_ _ | refine blk_drew ?_ | refine blk_alloc ?_ _)); refine blk_far ?_ NB354_373.out _; (with_reducible repeat (first | refine blk_drewN ?_ _ | refine blk_drew ?_ | refine blk_alloc ?_ _)); exact BK354.out))⟩; have n4_ : Aside0 (w30.heap[gb367]? = some (.cells #[.int .i64 t361, .int .i64 t362, .slice Ao21 t363.length co21] 29 (0, 0))) := ⟨(by rw [hw]; exact (by (with_reducible repeat (first | refine blk_drewN ?_ _ | refine blk_drew ?_ | refine blk_alloc ?_ _)); refine blk_far ?_ NB367_373.out _; (with_reducible repeat (first | refine blk_drewN ?_ _ | refine blk_drew ?_ | refine blk_alloc ?_ _)); refine blk_far ?_ NB367_373.out _; (with_reducible repeat (first | refine blk_drewN ?_ _ | refine blk_drew ?_ | refine blk_alloc ?_ _)); refine blk_far ?_ NB367_373.out _; (with_reducible repeat (first | refine blk_drewN ?_ _ | refine blk_drew ?_ | refine blk_alloc ?_ _)); exact BK367.out))⟩; have n5_ : Aside0 (w30.heap[gb373]? = some (.cells #[.int .i64 t368, .int .i64 t369, .slice Ao29 t370.length co29] 29 (0, 0))) := ⟨(by rw [hw]; exact (by (with_reducible repeat (first | refine blk_drewN ?_ _ | refine blk_drew ?_ | refine blk_alloc ?_ _)); refine blk_put (cs := #[.int .i64 t368, .int .i64 t369, .slice none 0 0]) ?_ 2 _ rfl; (with_reducible repeat (first | refine blk_drewN ?_ _ | refine blk_drew ?_ | refine blk_alloc ?_ _)); refine blk_put (cs := #[.int .i64 t368, .int .i64 0, .slice none 0 0]) ?_ 1 _ rfl; (with_reducible repeat (first | refine blk_drewN ?_ _ | refine blk_drew ?_ | refine blk_alloc ?_ _)); refine blk_put (cs := #[.int .i64 0, .int .i64 0, .slice none 0 0]) ?_ 0 _ rfl; (with_reducible repeat (first | refine blk_drewN ?_ _ | refine blk_drew ?_ | refine blk_alloc ?_ _)); exact BK373.out))⟩; have n6_ : Aside0 (Below w.heap.size w w30) := ⟨(by rw [hw]; exact Xi)⟩; clear hw; clear HO360; clear HO365; clear HO372; clear BK354; clear BK367; clear BK373; clear HB; have HO360 := n0_; have HO365 := n1_; have HO372 := n2_; have BK354 := n3_; have BK367 := n4_; have BK373 := n5_; have HB := n6_; clear n0_ n1_ n2_ n3_ n4_ n5_ n6_; obtain ⟨hcz31_0, hcz31_1, hcz31_2⟩ := Xc3 BK373; obtain ⟨hfz31_0, hfz31_1, hfz31_2⟩ := Xf3 BK373) | ((with_reducible refine gate_callee (f := 27) rfl ?_); refine Xgo 33 Try.func27 #[.agg #[.int .i64 t368, .int .i64 t369, .slice Ao29 t370.length co29], .int .i64 a1] ?_; (with_reducible refine (impl_CopySub.calls k t368 t369 _ _ t370 a1 t374 t375 t376 t379 _ ?side1 ?side2 A12.out).mono ?_); (case side1 => repeat (first | exact (Kd.S_reads' HO372.out).2.2 | (with_reducible first | refine Kd.C_alloc ?_ _ | refine Kd.C_drewN ?_ _ | refine Kd.C_drew ?_))); (case side2 => exact (Kd.S_reads' HO372.out).2.1); rintro e w32 ⟨v377, rfl, ho0, hb⟩; refine ⟨_, rfl, ?_⟩; obtain ⟨z3_, hzz3_⟩ := XR.zat ho0; have HO378 := Aside0.mk (Kd.S_lower (Kd.S_new' (Kd.S_new' (Kd.S_new' (XR.S_newZ ho0 hzz3_) (Kd.S_lt (Xq HO360))) (Kd.N_lt (Xq HO365))) (Kd.S_lt (Xq HO372))) (below_size Xi)); replace HO360 := Aside0.mk (XR.S_elderZ (Xq HO360) (Kd.S_base ho0) hb hzz3_); replace HO365 := Aside0.mk (XR.N_elderZ (Xq HO365) (Kd.S_base ho0) hb hzz3_); replace HO372 := Aside0.mk (XR.S_elderZ (Xq HO372) (Kd.S_base ho0) hb hzz3_); replace BK354 := Xbb BK354 hb; replace BK367 := Xbb BK367 hb; replace BK373 := Xbb BK373 hb; replace HB := Aside0.mk (below_step Xi hb); clear hb; (try clear ho0); (try clear hzz3_)) | ((with_reducible refine gate_dst (N := 9) rfl ?_); refine Xbox 9 #[.int .i64 0, .int .i64 0, .slice none 0 0] 29 ?_; intro gb380 hg w33 hbox hb; replace HO360 := Aside0.mk (Kd.S_below (Xq HO360) hb); replace HO365 := Aside0.mk (Kd.N_below (Kd.N_elderB (Xq HO365) gb380 (Nat.le_of_eq hg.symm)) hb); replace HO372 := Aside0.mk (Kd.S_below (Xq HO372) hb); replace HO378 := Aside0.mk (Kd.S_below (Xq HO378) hb); have BK380 := Aside0.mk (hbox); have GE380 := Xge hg Xi; replace HB := Aside0.mk (below_step Xi hb); have NB354_380 := Xnb hg BK354; have NB380_354 := Xns NB354_380; replace BK354 := Xbb BK354 hb; have NB367_380 := Xnb hg BK367; have NB380_367 := Xns NB367_380; replace BK367 := Xbb BK367 hb; have NB373_380 := Xnb hg BK373; have NB380_373 := Xns NB373_380; replace BK373 := Xbb BK373 hb; clear hb hbox hg; have hnb34 := NB380_354.out; have hnc34 := NB354_380.out; have hnb35 := NB380_367.out; have hnc35 := NB367_380.out; have hnb36 := NB380_373.out; have hnc36 := NB373_380.out; obtain ⟨hcz37_0, hcz37_1, hcz37_2⟩ := Xc3 BK380; obtain ⟨hfz37_0, hfz37_1, hfz37_2⟩ := Xf3 BK380; obtain ⟨Ao38, co38, eo38⟩ := Kd.S_slice HO378.out; subst eo38) | ((with_reducible refine gate_store (t := 29) (p := 9) rfl ?_); refine store_event (t := 29) (p := 9) (v := ?vo_w39) (w1 := (((w33.setCell ⟨gb380, 0, none⟩ (.int .i64 t374)).setCell ⟨gb380, 1, none⟩ (.int .i64 t375)).setCell ⟨gb380, 2, none⟩ (.slice Ao38 t376.length co38))) ?hg ?ho ?hn ?hr ?_; (case ho => rfl); (case hg => rfl); (case hn => rfl); (case hr => first | (go_simp; done) | (go_simp; rfl)); intro w39 hw; have n0_ : Aside0 (Kd.S k88 88 w39 w.heap.size (fun k_ => some k_ ≠ (.slice Ao21 t363.length co21 : Value).ownBlock ∧ some k_ ≠ (.slice Ao29 t370.length co29 : Value).ownBlock ∧ some k_ ≠ (.slice Ao38 t376.length co38 : Value).ownBlock ∧ k_ ≠ XR.zge z1_ k_ ∧ k_ ≠ XR.zlt z2_ k_ ∧ k_ ≠ XR.zlt z3_ k_) (.slice Ao16 t358.length co16) t358) := ⟨(by rw [hw]; exact (by (with_reducible repeat (first | apply Kd.S_alloc | apply Kd.S_drewN | apply Kd.S_drew)); exact Kd.S_mono (Kd.S_far (p := ⟨gb380, 2, none⟩) (Kd.S_far (p := ⟨gb380, 1, none⟩) (Kd.S_far (p := ⟨gb380, 0, none⟩) (Kd.S_types HO360.out BK380.out (by decide)) (fun _ hk => hk.2) (.int .i64 t374)) (fun _ hk => hk.2) (.int .i64 t375)) (fun _ hk => hk.2) (.slice Ao38 t376.length co38)) (fun _ hk => ⟨hk.1.1.1.1, ⟨hk.1.1.1.2.1, ⟨hk.1.1.2, ⟨hk.1.1.1.2.2.1, ⟨hk.1.1.1.2.2.2, hk.1.2⟩⟩⟩⟩⟩)))⟩; have n1_ : Aside0 (Kd.N k88 88 w39 w.heap.size (fun k_ => some k_ ≠ (.slice Ao29 t370.length co29 : Value).ownBlock ∧ some k_ ≠ (.slice Ao38 t376.length co38 : Value).ownBlock ∧ k_ ≠ gb354 ∧ k_ ≠ gb367 ∧ k_ ≠ XR.zlt z2_ k_ ∧ k_ ≠ gb373 ∧ k_ ≠ XR.zlt z3_ k_ ∧ k_ ≠ gb380) (.slice Ao21 t363.length co21) t363) := ⟨(by rw [hw]; exact (by (with_reducible repeat (first | apply Kd.N_alloc | apply Kd.N_drewN | apply Kd.N_drew)); exact Kd.N_mono (Kd.N_far (p := ⟨gb380, 2, none⟩) (Kd.N_far (p := ⟨gb380, 1, none⟩) (Kd.N_far (p := ⟨gb380, 0, none⟩) (Kd.N_mono HO365.out (fun k_ hk => (⟨hk, hk.2⟩ : _ ∧ k_ ≠ gb380))) (fun _ hk => hk.2) (.int .i64 t374)) (fun _ hk => hk.2) (.int .i64 t375)) (fun _ hk => hk.2) (.slice Ao38 t376.length co38)) (fun _ hk => ⟨hk.1.1.1.1.1, ⟨hk.1.1.1.2, ⟨hk.1.1.1.1.2.1, ⟨hk.1.1.1.1.2.2.1, ⟨hk.1.1.1.1.2.2.2.1, ⟨hk.1.1.1.1.2.2.2.2, ⟨hk.1.1.2, hk.1.2⟩⟩⟩⟩⟩⟩⟩)))⟩; have n2_ : Aside0 (Kd.S k88 88 w39 w.heap.size (fun k_ => some k_ ≠ (.slice Ao16 t358.length co16 : Value).ownBlock ∧ some k_ ≠ (.slice Ao21 t363.length co21 : Value).ownBlock ∧ some k_ ≠ (.slice Ao38 t376.length co38 : Value).ownBlock ∧ k_ ≠ XR.zge z2_ k_ ∧ k_ ≠ XR.zlt z3_ k_) (.slice Ao29 t370.length co29) t370) := ⟨(by rw [hw]; exact (by (with_reducible repeat (first | apply Kd.S_alloc | apply Kd.S_drewN | apply Kd.S_drew)); exact Kd.S_mono (Kd.S_far (p := ⟨gb380, 2, none⟩) (Kd.S_far (p := ⟨gb380, 1, none⟩) (Kd.S_far (p := ⟨gb380, 0, none⟩) (Kd.S_types HO372.out BK380.out (by decide)) (fun _ hk => hk.2) (.int .i64 t374)) (fun _ hk => hk.2) (.int .i64 t375)) (fun _ hk => hk.2) (.slice Ao38 t376.length co38)) (fun _ hk => ⟨hk.1.1.1.1, ⟨hk.1.1.1.2.1, ⟨hk.1.1.2, ⟨hk.1.1.1.2.2, hk.1.2⟩⟩⟩⟩)))⟩; have n3_ : Aside0 (Kd.S k88 88 w39 w.heap.size (fun k_ => some k_ ≠ (.slice Ao16 t358.length co16 : Value).ownBlock ∧ some k_ ≠ (.slice Ao21 t363.length co21 : Value).ownBlock ∧ some k_ ≠ (.slice Ao29 t370.length co29 : Value).ownBlock ∧ k_ ≠ XR.zge z3_ k_) (.slice Ao38 t376.length co38) t376) := ⟨(by rw [hw]; exact (by (with_reducible repeat (first | apply Kd.S_alloc | apply Kd.S_drewN | apply Kd.S_drew)); exact Kd.S_mono (Kd.S_far (p := ⟨gb380, 2, none⟩) (Kd.S_far (p := ⟨gb380, 1, none⟩) (Kd.S_far (p := ⟨gb380, 0, none⟩) (Kd.S_types HO378.out BK380.out (by decide)) (fun _ hk => hk.2) (.int .i64 t374)) (fun _ hk => hk.2) (.int .i64 t375)) (fun _ hk => hk.2) (.slice Ao38 t376.length co38)) (fun _ hk => ⟨hk.1.1.1.2, ⟨hk.1.1.2, ⟨hk.1.2, hk.1.1.1.1.2⟩⟩⟩)))⟩; have n4_ : Aside0 (w39.heap[gb354]? = some (.cells #[.int .i64 a0_0, .int .i64 a0_1, .slice A0_2 l0_2.length c0_2] 24 (0, 0))) := ⟨(by rw [hw]; exact (by (with_reducible repeat (first | refine blk_drewN ?_ _ | refine blk_drew ?_ | refine blk_alloc ?_ _)); refine blk_far ?_ NB354_380.out _; (with_reducible repeat (first | refine blk_drewN ?_ _ | refine blk_drew ?_ | refine blk_alloc ?_ _)); refine blk_far ?_ NB354_380.out _; (with_reducible repeat (first | refine blk_drewN ?_ _ | refine blk_drew ?_ | refine blk_alloc ?_ _)); refine blk_far ?_ NB354_380.out _; (with_reducible repeat (first | refine blk_drewN ?_ _ | refine blk_drew ?_ | refine blk_alloc ?_ _)); exact BK354.out))⟩; have n5_ : Aside0 (w39.heap[gb367]? = some (.cells #[.int .i64 t361, .int .i64 t362, .slice Ao21 t363.length co21] 29 (0, 0))) := ⟨(by rw [hw]; exact (by (with_reducible repeat (first | refine blk_drewN ?_ _ | refine blk_drew ?_ | refine blk_alloc ?_ _)); refine blk_far ?_ NB367_380.out _; (with_reducible repeat (first | refine blk_drewN ?_ _ | refine blk_drew ?_ | refine blk_alloc ?_ _)); refine blk_far ?_ NB367_380.out _; (with_reducible repeat (first | refine blk_drewN ?_ _ | refine blk_drew ?_ | refine blk_alloc ?_ _)); refine blk_far ?_ NB367_380.out _; (with_reducible repeat (first | refine blk_drewN ?_ _ | refine blk_drew ?_ | refine blk_alloc ?_ _)); exact BK367.out))⟩; have n6_ : Aside0 (w39.heap[gb373]? = some (.cells #[.int .i64 t368, .int .i64 t369, .slice Ao29 t370.length co29] 29 (0, 0))) := ⟨(by rw [hw]; exact (by (with_reducible repeat (first | refine blk_drewN ?_ _ | refine blk_drew ?_ | refine blk_alloc ?_ _)); refine blk_far ?_ NB373_380.out _; (with_reducible repeat (first | refine blk_drewN ?_ _ | refine blk_drew ?_ | refine blk_alloc ?_ _)); refine blk_far ?_ NB373_380.out _; (with_reducible repeat (first | refine blk_drewN ?_ _ | refine blk_drew ?_ | refine blk_alloc ?_ _)); refine blk_far ?_ NB373_380.out _; (with_reducible repeat (first | refine blk_drewN ?_ _ | refine blk_drew ?_ | refine blk_alloc ?_ _)); exact BK373.out))⟩; have n7_ : Aside0 (w39.heap[gb380]? = some (.cells #[.int .i64 t374, .int .i64 t375, .slice Ao38 t376.length co38] 29 (0, 0))) := ⟨(by rw [hw]; exact (by (with_reducible repeat (first | refine blk_drewN ?_ _ | refine blk_drew ?_ | refine blk_alloc ?_ _)); refine blk_put (cs := #[.int .i64 t374, .int .i64 t375, .slice none 0 0]) ?_ 2 _ rfl; (with_reducible repeat (first | refine blk_drewN ?_ _ | refine blk_drew ?_ | refine blk_alloc ?_ _)); refine blk_put (cs := #[.int .i64 t374, .int .i64 0, .slice none 0 0]) ?_ 1 _ rfl; (with_reducible repeat (first | refine blk_drewN ?_ _ | refine blk_drew ?_ | refine blk_alloc ?_ _)); refine blk_put (cs := #[.int .i64 0, .int .i64 0, .slice none 0 0]) ?_ 0 _ rfl; (with_reducible repeat (first | refine blk_drewN ?_ _ | refine blk_drew ?_ | refine blk_alloc ?_ _)); exact BK380.out))⟩; have n8_ : Aside0 (Below w.heap.size w w39) := ⟨(by rw [hw]; exact Xi)⟩; clear hw; clear HO360; clear HO365; clear HO372; clear HO378; clear BK354; clear BK367; clear BK373; clear BK380; clear HB; have HO360 := n0_; have HO365 := n1_; have HO372 := n2_; have HO378 := n3_; have BK354 := n4_; have BK367 := n5_; have BK373 := n6_; have BK380 := n7_; have HB := n8_; clear n0_ n1_ n2_ n3_ n4_ n5_ n6_ n7_ n8_))
  (try simp only [XW.q0, XW.q1, XW.q2])
  go_cut [44] (fun v44 wc => ∃ (kq : Nat) (x44_12 : Bool), v44 = .bool x44_12 ∧ Aside0 (laws_FnExactCopySub.j0 kq a1 t366 t379 x44_12 a0_0 a0_1 l0_2 t361 t362 t363 t368 t369 t370 t374 t375 t376 = some true) ∧ Aside0 (kq ≤ k) ∧ Aside0 (Kd.N k88 88 wc w.heap.size (fun k_ => some k_ ≠ ((.slice Ao29 t370.length co29) : Value).ownBlock ∧ some k_ ≠ ((.slice Ao38 t376.length co38) : Value).ownBlock ∧ k_ ≠ gb354 ∧ k_ ≠ gb367 ∧ k_ ≠ gb373 ∧ k_ ≠ gb380 ∧ k_ ≠ XR.zlt z2_ k_ ∧ k_ ≠ XR.zlt z3_ k_) (.slice Ao21 t363.length co21) t363) ∧ Aside0 (Kd.S k88 88 wc w.heap.size (fun k_ => some k_ ≠ ((.slice Ao21 t363.length co21) : Value).ownBlock ∧ some k_ ≠ ((.slice Ao38 t376.length co38) : Value).ownBlock ∧ k_ ≠ XR.zge z2_ k_ ∧ k_ ≠ XR.zlt z3_ k_) (.slice Ao29 t370.length co29) t370) ∧ Aside0 (Kd.S k88 88 wc w.heap.size (fun k_ => some k_ ≠ ((.slice Ao21 t363.length co21) : Value).ownBlock ∧ some k_ ≠ ((.slice Ao29 t370.length co29) : Value).ownBlock ∧ k_ ≠ XR.zge z3_ k_) (.slice Ao38 t376.length co38) t376) ∧ Aside0 (wc.heap[gb354]? = some (.cells #[.int .i64 a0_0, .int .i64 a0_1, (.slice A0_2 l0_2.length c0_2)] 24 (0, 0))) ∧ Aside0 (wc.heap[gb367]? = some (.cells #[.int .i64 t361, .int .i64 t362, (.slice Ao21 t363.length co21)] 29 (0, 0))) ∧ Aside0 (wc.heap[gb373]? = some (.cells #[.int .i64 t368, .int .i64 t369, (.slice Ao29 t370.length co29)] 29 (0, 0))) ∧ Aside0 (wc.heap[gb380]? = some (.cells #[.int .i64 t374, .int .i64 t375, (.slice Ao38 t376.length co38)] 29 (0, 0))) ∧ Aside0 (Below w.heap.size w wc))
  case first =>
   have H := HC13.out
   clear HC13
   obtain ⟨t381, A40, H⟩ := Xbi H
   (try dsimp only at H)
   by_cases c41 : t381 = true
   ·subst c41
    (first | rw [if_pos rfl] at H | skip)
    have H' := Aside0.mk H
    clear H
    have hnb42 := NB380_354.out
    have hnc42 := NB354_380.out
    have hnb43 := NB380_367.out
    have hnc43 := NB367_380.out
    have hnb44 := NB380_373.out
    have hnc44 := NB373_380.out
    obtain ⟨hcz45_0, hcz45_1, hcz45_2⟩ := Xc3 BK380
    obtain ⟨hfz45_0, hfz45_1, hfz45_2⟩ := Xf3 BK380
    have hnb46 := NB367_354.out
    have hnc46 := NB354_367.out
    have hnb47 := NB367_373.out
    have hnc47 := NB373_367.out
    obtain ⟨hcz48_0, hcz48_1, hcz48_2⟩ := Xc3 BK367
    obtain ⟨hfz48_0, hfz48_1, hfz48_2⟩ := Xf3 BK367
    go_wp2_with (first | ((with_reducible refine gate_callee (f := 17) rfl ?_); refine Xgo 38 Try.func17 #[.agg #[.int .i64 t374, .int .i64 t375, .slice Ao38 t376.length co38], .agg #[.int .i64 t361, .int .i64 t362, .slice Ao21 t363.length co21]] ?_; (with_reducible refine (laws_eqDoc.calls k t374 t375 _ _ t376 t361 t362 _ _ t363 true _ ?side1 ?side2 ?side3 ?side4 A40.out).mono ?_); (case side1 => repeat (first | exact (Kd.S_reads' HO378.out).2.2 | (with_reducible first | refine Kd.C_alloc ?_ _ | refine Kd.C_drewN ?_ _ | refine Kd.C_drew ?_))); (case side2 => exact (Kd.S_reads' HO378.out).2.1); (case side3 => repeat (first | exact (Kd.N_reads' HO365.out).2.2 | (with_reducible first | refine Kd.C_alloc ?_ _ | refine Kd.C_drewN ?_ _ | refine Kd.C_drew ?_))); (case side4 => exact (Kd.N_reads' HO365.out).2.1); rintro e w49 ⟨rfl, hb⟩; refine ⟨_, rfl, ?_⟩; replace HO360 := Aside0.mk (Kd.S_below (Xq HO360) hb); replace HO365 := Aside0.mk (Kd.N_below (Xq HO365) hb); replace HO372 := Aside0.mk (Kd.S_below (Xq HO372) hb); replace HO378 := Aside0.mk (Kd.S_below (Xq HO378) hb); replace BK354 := Xbb BK354 hb; replace BK367 := Xbb BK367 hb; replace BK373 := Xbb BK373 hb; replace BK380 := Xbb BK380 hb; replace HB := Aside0.mk (below_step Xi hb); clear hb))
    go_meet
    case rel => exact ⟨_, ((t379 != t366)), Xr, H', Xko, ⟨by (with_reducible repeat (first | apply Kd.N_alloc | apply Kd.N_drewN | apply Kd.N_drew)); exact Kd.N_mono HO365.out (fun _ hk => ⟨hk.1, ⟨hk.2.1, ⟨hk.2.2.1, ⟨hk.2.2.2.1, ⟨hk.2.2.2.2.2.1, ⟨hk.2.2.2.2.2.2.2, ⟨hk.2.2.2.2.1, hk.2.2.2.2.2.2.1⟩⟩⟩⟩⟩⟩⟩)⟩, ⟨by (with_reducible repeat (first | apply Kd.S_alloc | apply Kd.S_drewN | apply Kd.S_drew)); exact Kd.S_mono HO372.out (fun _ hk => ⟨hk.2.1, ⟨hk.2.2.1, ⟨hk.2.2.2.1, hk.2.2.2.2⟩⟩⟩)⟩, ⟨by (with_reducible repeat (first | apply Kd.S_alloc | apply Kd.S_drewN | apply Kd.S_drew)); exact Kd.S_mono HO378.out (fun _ hk => ⟨hk.2.1, ⟨hk.2.2.1, hk.2.2.2⟩⟩)⟩, BK354, BK367, BK373, BK380, ⟨Xi⟩⟩
   ·replace c41 := Bool.eq_false_iff.mpr c41
    subst c41
    (first | rw [if_neg (show ¬ (false = true) by decide)] at H | skip)
    have H' := Aside0.mk H
    clear H
    have hnb50 := NB380_354.out
    have hnc50 := NB354_380.out
    have hnb51 := NB380_367.out
    have hnc51 := NB367_380.out
    have hnb52 := NB380_373.out
    have hnc52 := NB373_380.out
    obtain ⟨hcz53_0, hcz53_1, hcz53_2⟩ := Xc3 BK380
    obtain ⟨hfz53_0, hfz53_1, hfz53_2⟩ := Xf3 BK380
    have hnb54 := NB367_354.out
    have hnc54 := NB354_367.out
    have hnb55 := NB367_373.out
    have hnc55 := NB373_367.out
    obtain ⟨hcz56_0, hcz56_1, hcz56_2⟩ := Xc3 BK367
    obtain ⟨hfz56_0, hfz56_1, hfz56_2⟩ := Xf3 BK367
    go_wp2_with (first | ((with_reducible refine gate_callee (f := 17) rfl ?_); refine Xgo 38 Try.func17 #[.agg #[.int .i64 t374, .int .i64 t375, .slice Ao38 t376.length co38], .agg #[.int .i64 t361, .int .i64 t362, .slice Ao21 t363.length co21]] ?_; (with_reducible refine (laws_eqDoc.calls k t374 t375 _ _ t376 t361 t362 _ _ t363 false _ ?side1 ?side2 ?side3 ?side4 A40.out).mono ?_); (case side1 => repeat (first | exact (Kd.S_reads' HO378.out).2.2 | (with_reducible first | refine Kd.C_alloc ?_ _ | refine Kd.C_drewN ?_ _ | refine Kd.C_drew ?_))); (case side2 => exact (Kd.S_reads' HO378.out).2.1); (case side3 => repeat (first | exact (Kd.N_reads' HO365.out).2.2 | (with_reducible first | refine Kd.C_alloc ?_ _ | refine Kd.C_drewN ?_ _ | refine Kd.C_drew ?_))); (case side4 => exact (Kd.N_reads' HO365.out).2.1); rintro e w57 ⟨rfl, hb⟩; refine ⟨_, rfl, ?_⟩; replace HO360 := Aside0.mk (Kd.S_below (Xq HO360) hb); replace HO365 := Aside0.mk (Kd.N_below (Xq HO365) hb); replace HO372 := Aside0.mk (Kd.S_below (Xq HO372) hb); replace HO378 := Aside0.mk (Kd.S_below (Xq HO378) hb); replace BK354 := Xbb BK354 hb; replace BK367 := Xbb BK367 hb; replace BK373 := Xbb BK373 hb; replace BK380 := Xbb BK380 hb; replace HB := Aside0.mk (below_step Xi hb); clear hb))
    go_meet
    case rel => exact ⟨_, (true), Xr, H', Xko, ⟨by (with_reducible repeat (first | apply Kd.N_alloc | apply Kd.N_drewN | apply Kd.N_drew)); exact Kd.N_mono HO365.out (fun _ hk => ⟨hk.1, ⟨hk.2.1, ⟨hk.2.2.1, ⟨hk.2.2.2.1, ⟨hk.2.2.2.2.2.1, ⟨hk.2.2.2.2.2.2.2, ⟨hk.2.2.2.2.1, hk.2.2.2.2.2.2.1⟩⟩⟩⟩⟩⟩⟩)⟩, ⟨by (with_reducible repeat (first | apply Kd.S_alloc | apply Kd.S_drewN | apply Kd.S_drew)); exact Kd.S_mono HO372.out (fun _ hk => ⟨hk.2.1, ⟨hk.2.2.1, ⟨hk.2.2.2.1, hk.2.2.2.2⟩⟩⟩)⟩, ⟨by (with_reducible repeat (first | apply Kd.S_alloc | apply Kd.S_drewN | apply Kd.S_drew)); exact Kd.S_mono HO378.out (fun _ hk => ⟨hk.2.1, ⟨hk.2.2.1, hk.2.2.2⟩⟩)⟩, BK354, BK367, BK373, BK380, ⟨Xi⟩⟩
  case rest =>
   clear HC13
   (try clear c8); (try clear c8b0); (try clear hcz14_0); (try clear hcz14_1); (try clear hcz14_2); (try clear hcz20_0); (try clear hcz20_1); (try clear hcz20_2); (try clear hcz23_0); (try clear hcz23_1); (try clear hcz23_2); (try clear hcz28_0); (try clear hcz28_1); (try clear hcz28_2); (try clear hcz31_0); (try clear hcz31_1); (try clear hcz31_2); (try clear hcz37_0); (try clear hcz37_1); (try clear hcz37_2); (try clear hcz6_0); (try clear hcz6_1); (try clear hcz6_2); (try clear hfz14_0); (try clear hfz14_1); (try clear hfz14_2); (try clear hfz20_0); (try clear hfz20_1); (try clear hfz20_2); (try clear hfz23_0); (try clear hfz23_1); (try clear hfz23_2); (try clear hfz28_0); (try clear hfz28_1); (try clear hfz28_2); (try clear hfz31_0); (try clear hfz31_1); (try clear hfz31_2); (try clear hfz37_0); (try clear hfz37_1); (try clear hfz37_2); (try clear hfz6_0); (try clear hfz6_1); (try clear hfz6_2)
   obtain ⟨kq, x44_12, rfl, HA, HJ12, HO_368002, HO_374002, HO_381002, BK354, BK367, BK373, BK380, HB⟩ := hcut
   cases kq with
   | zero => cases HA.out
   | succ kj12 =>
    have H := HA.out
    clear HA
    simp only [laws_FnExactCopySub.j0] at H
    by_cases c58 : x44_12 = true
    ·subst c58
     (first | rw [if_pos rfl] at H | skip)
     cases H
    ·replace c58 := Bool.eq_false_iff.mpr c58
     subst c58
     (first | rw [if_neg (show ¬ (false = true) by decide)] at H | skip)
     replace H := Option.bind_eq_some_iff.mp H
     obtain ⟨⟨t382, t383, t384⟩, A590, H⟩ := H
     (try dsimp only at H)
     have A59 := Aside0.mk A590
     clear A590
     obtain ⟨t387, A60, H⟩ := Xbi H
     (try dsimp only at H)
     have HC61 := Aside0.mk H
     clear H
     try go_wp2_with (fail)
     replace HO_368002 := Aside0.mk (Kd.N_drew HO_368002.out)
     replace HO_374002 := Aside0.mk (Kd.S_drew HO_374002.out)
     replace HO_381002 := Aside0.mk (Kd.S_drew HO_381002.out)
     replace BK354 := Aside0.mk (blk_drew BK354.out)
     replace BK367 := Aside0.mk (blk_drew BK367.out)
     replace BK373 := Aside0.mk (blk_drew BK373.out)
     replace BK380 := Aside0.mk (blk_drew BK380.out)
     replace HB := Aside0.mk (below_drew1 HB.out)
     refine start_ (n := 5) (S := fun w' => w'.cell? ⟨gb373, 0, none⟩ = some (.int .i64 t368) ∧ w'.cell? ⟨gb373, 1, none⟩ = some (.int .i64 t369) ∧ w'.cell? ⟨gb373, 2, none⟩ = some (.slice Ao29 t370.length co29) ∧ w'.cell? ⟨gb354, 0, none⟩ = some (.int .i64 a0_0) ∧ w'.cell? ⟨gb354, 1, none⟩ = some (.int .i64 a0_1) ∧ w'.cell? ⟨gb354, 2, none⟩ = some (.slice A0_2 l0_2.length c0_2)) (ds := []) #[false, false, false, false, false] (by kernel_rfl) rfl rfl ⟨(blk_cell BK373.out 0).trans rfl, (blk_cell BK373.out 1).trans rfl, (blk_cell BK373.out 2).trans rfl, (blk_cell BK354.out 0).trans rfl, (blk_cell BK354.out 1).trans rfl, (blk_cell BK354.out 2).trans rfl⟩ (fun hHeld => ?_)
     generalize wc.drew = w62 at HO_368002 HO_374002 HO_381002 BK354 BK367 BK373 BK380 HB hHeld ⊢
     refine take_ (i := 0) (N := some 45) (v := ?_) (a' := ?_) #[true, false, false, false, false] rfl rfl (by kernel_rfl) (fun _ _ _ h => h) (Or.inl ⟨by rfl, ?_⟩) hHeld ?_ ?_
     rotate_left
     ·rintro w' ⟨s0, s1, s2, s3, s4, s5⟩
      go_simp
      with_reducible rfl
     rotate_left
     ·simp only [XW.q0, XW.q1, XW.q2, i64_w, i32_w]
      rfl
     refine take_ (i := 1) (N := some 46) (v := ?_) (a' := ?_) #[true, true, false, false, false] rfl rfl (by kernel_rfl) (fun _ _ _ h => h) (Or.inl ⟨by rfl, ?_⟩) hHeld ?_ ?_
     rotate_left
     ·rintro w' ⟨s0, s1, s2, s3, s4, s5⟩
      go_simp
      with_reducible rfl
     rotate_left
     ·simp only [XW.q0, XW.q1, XW.q2, i64_w, i32_w]
      rfl
     refine one_ (i := 2) (N := some 47) #[true, true, true, false, false] rfl rfl (by kernel_rfl) (by decide) (fun K hK => ?_)
     refine goes_ Try.func15 (by kernel_rfl) rfl #[.agg #[.int .i64 a0_0, .int .i64 a0_1, .slice A0_2 l0_2.length c0_2]] (by rfl) rfl rfl (by (try simp only [List.map_toArray, List.map_cons, List.map_nil]); first | done | rfl | (simp only [List.length_drop, List.length_take]; rfl)) ?_
     with_reducible refine (laws_toDoc.calls kj12 a0_0 a0_1 _ _ l0_2 t382 t383 t384 _ ?side1 ?side2 A59.out).mono ?_
     (case side1 => exact Xc HR0_2)
     (case side2 => exact HC0_2.out)
     rintro e w63 ⟨v385, rfl, ho0, hb⟩
     refine ⟨_, rfl, ?_⟩
     obtain ⟨z4_, hzz4_⟩ := XR.zat ho0
     have HO386 := Aside0.mk (Kd.S_lower (Kd.S_new' (Kd.S_new' (Kd.S_new' (XR.S_newZ ho0 hzz4_) (Kd.N_lt (Xq HO_368002))) (Kd.S_lt (Xq HO_374002))) (Kd.S_lt (Xq HO_381002))) (below_size Xi))
     replace HO_368002 := Aside0.mk (XR.N_elderZ (Xq HO_368002) (Kd.S_base ho0) hb hzz4_)
     replace HO_374002 := Aside0.mk (XR.S_elderZ (Xq HO_374002) (Kd.S_base ho0) hb hzz4_)
     replace HO_381002 := Aside0.mk (XR.S_elderZ (Xq HO_381002) (Kd.S_base ho0) hb hzz4_)
     replace BK354 := Xbb BK354 hb
     replace BK367 := Xbb BK367 hb
     replace BK373 := Xbb BK373 hb
     replace BK380 := Xbb BK380 hb
     replace HB := Aside0.mk (below_step Xi hb)
     (try clear hb)
     (try clear hb2)
     (try clear hk)
     (try clear hi)
     (try clear ho0)
     (try clear hzz4_)
     obtain ⟨Ao64, co64, eo64⟩ := Kd.S_slice HO386.out
     (first | subst eo64 | (injection eo64 with f1_ f2_ f3_; have f4_ := f1_.symm; have f5_ := f3_.symm; clear f1_ f2_ f3_; subst f4_; subst f5_))
     refine hK.out _ _ ⟨(blk_cell BK373.out 0).trans rfl, (blk_cell BK373.out 1).trans rfl, (blk_cell BK373.out 2).trans rfl, (blk_cell BK354.out 0).trans rfl, (blk_cell BK354.out 1).trans rfl, (blk_cell BK354.out 2).trans rfl⟩ (fun hHeld => ?_)
     clear hK K
     refine Xno ?_
     refine one_ (i := 3) (N := some 48) #[true, true, true, true, false] rfl rfl (by kernel_rfl) (by decide) (fun K hK => ?_)
     refine goes_ Try.func17 (by kernel_rfl) rfl #[.agg #[.int .i64 t368, .int .i64 t369, .slice Ao29 t370.length co29], .agg #[.int .i64 t382, .int .i64 t383, .slice Ao64 t384.length co64]] (by rfl) rfl rfl (by (try simp only [List.map_toArray, List.map_cons, List.map_nil]); first | done | rfl | (simp only [List.length_drop, List.length_take]; rfl)) ?_
     with_reducible refine (laws_eqDoc.calls kj12 t368 t369 _ _ t370 t382 t383 _ _ t384 t387 _ ?side1 ?side2 ?side3 ?side4 A60.out).mono ?_
     (case side1 => repeat (first | exact (Kd.S_reads' HO_374002.out).2.2 | (with_reducible first | refine Kd.C_alloc ?_ _ | refine Kd.C_drewN ?_ _ | refine Kd.C_drew ?_)))
     (case side2 => exact (Kd.S_reads' HO_374002.out).2.1)
     (case side3 => repeat (first | exact (Kd.S_reads' HO386.out).2.2 | (with_reducible first | refine Kd.C_alloc ?_ _ | refine Kd.C_drewN ?_ _ | refine Kd.C_drew ?_)))
     (case side4 => exact (Kd.S_reads' HO386.out).2.1)
     rintro e w65 ⟨rfl, hb⟩
     refine ⟨_, rfl, ?_⟩
     replace HO_368002 := Aside0.mk (Kd.N_below (Xq HO_368002) hb)
     replace HO_374002 := Aside0.mk (Kd.S_below (Xq HO_374002) hb)
     replace HO_381002 := Aside0.mk (Kd.S_below (Xq HO_381002) hb)
     replace HO386 := Aside0.mk (Kd.S_below (Xq HO386) hb)
     replace BK354 := Xbb BK354 hb
     replace BK367 := Xbb BK367 hb
     replace BK373 := Xbb BK373 hb
     replace BK380 := Xbb BK380 hb
     replace HB := Aside0.mk (below_step Xi hb)
     (try clear hb)
     (try clear hb2)
     (try clear hk)
     (try clear hi)
     refine hK.out _ _ ⟨(blk_cell BK373.out 0).trans rfl, (blk_cell BK373.out 1).trans rfl, (blk_cell BK373.out 2).trans rfl, (blk_cell BK354.out 0).trans rfl, (blk_cell BK354.out 1).trans rfl, (blk_cell BK354.out 2).trans rfl⟩ (fun hHeld => ?_)
     clear hK K
     refine Xno ?_
     refine pure_ (i := 4) (N := some 49) (v := ?_) (a' := ?_) #[true, true, true, true, true] rfl rfl (by kernel_rfl) (fun _ _ _ h => h) (Or.inl ⟨by rfl, ?_⟩) ?_ ?_
     rotate_left
     ·intro w'
      go_simp
      with_reducible rfl
     rotate_left
     ·simp only [XW.q0, XW.q1, XW.q2, i64_w, i32_w]
      rfl
     refine done_ (by kernel_rfl) ?_
     go_upto_if 49 with (fail)
     have H := HC61.out
     clear HC61
     by_cases c66 : t387 = true
     ·subst c66
      (first | rw [if_pos rfl] at H | skip)
      replace H := Option.bind_eq_some_iff.mp H
      obtain ⟨⟨t388, t389⟩, A670, H⟩ := H
      (try dsimp only at H)
      have A67 := Aside0.mk A670
      clear A670
      have HC68 := Aside0.mk H
      clear H
      have hnb69 := NB373_354.out
      have hnc69 := NB354_373.out
      have hnb70 := NB373_367.out
      have hnc70 := NB367_373.out
      have hnb71 := NB373_380.out
      have hnc71 := NB380_373.out
      obtain ⟨hcz72_0, hcz72_1, hcz72_2⟩ := Xc3 BK373
      obtain ⟨hfz72_0, hfz72_1, hfz72_2⟩ := Xf3 BK373
      go_upto_region 14 with (first | ((with_reducible refine gate_callee (f := 23) rfl ?_); refine Xgo 52 Try.func23 #[.agg #[.int .i64 t368, .int .i64 t369, .slice Ao29 t370.length co29], .int .i64 1] ?_; (with_reducible refine (laws_markDoc.calls kj12 t368 t369 (fun k_ => (((((((some k_ ≠ (.slice Ao21 t363.length co21 : Value).ownBlock ∧ (some k_ ≠ (.slice Ao38 t376.length co38 : Value).ownBlock ∧ (k_ ≠ XR.zge z2_ k_ ∧ k_ ≠ XR.zlt z3_ k_))) ∧ some k_ ≠ (.slice Ao64 t384.length co64 : Value).ownBlock) ∧ k_ ≠ XR.zlt z4_ k_) ∧ k_ ≠ gb354) ∧ k_ ≠ gb367) ∧ k_ ≠ gb373) ∧ k_ ≠ gb380)) (.slice Ao29 t370.length co29) t370 1 t388 t389 w _ ?side1 ?side2 A67.out).mono ?_); (case side1 => exact Xi); (case side2 => (with_reducible repeat (first | apply Kd.S_alloc | apply Kd.S_drewN | apply Kd.S_drew)); exact (Kd.S_types (Kd.S_types (Kd.S_types (Kd.S_types HO_374002.out BK354.out (by decide)) BK367.out (by decide)) BK373.out (by decide)) BK380.out (by decide))); rintro e w73 ⟨rfl, hy0, hb, hkp⟩; refine ⟨_, rfl, ?_⟩; replace HO_368002 := Aside0.mk (Kd.N_mono (Kd.N_keptB (HO_368002.out) hkp (fun k_ hk_ hs_ => XR.zno (hs_.1.1.1.1.1.1.2.2.1) (hk_.1.1.2.2.2.2.2.2.1))) (fun _ hk_ => hk_.1)); replace HO_374002 := Aside0.mk (hy0); replace HO_381002 := Aside0.mk (Kd.S_mono (Kd.S_keptB (HO_381002.out) hkp (fun k_ hk_ hs_ => XR.zno (hk_.1.1.2.2) (hs_.1.1.1.1.1.1.2.2.2))) (fun _ hk_ => hk_.1)); replace BK354 := Aside0.mk (blk_kept BK354.out hkp (fun hs_ => (hs_.1.1.1.2) rfl)); replace BK367 := Aside0.mk (blk_kept BK367.out hkp (fun hs_ => (hs_.1.1.2) rfl)); replace BK373 := Aside0.mk (blk_kept BK373.out hkp (fun hs_ => (hs_.1.2) rfl)); replace BK380 := Aside0.mk (blk_kept BK380.out hkp (fun hs_ => (hs_.2) rfl)); replace HO386 := Aside0.mk (Kd.S_mono (Kd.S_keptB (HO386.out) hkp (fun k_ hk_ hs_ => XR.zno (hk_.1.1.1.2) (hs_.1.1.1.1.2))) (fun _ hk_ => hk_.1)); replace HB := Aside0.mk (hb); (try clear hb); (try clear hkp); (try clear hy0)))
      (try simp only [XW.q0, XW.q1, XW.q2])
      go_cut [65] (fun v65 wc => ∃ (kq : Nat) (x65_67 : Bool), v65 = .bool x65_67 ∧ Aside0 (laws_FnExactCopySub.j1 kq a1 t366 x65_67 a0_0 a0_1 l0_2 t361 t362 t363 t374 t375 t376 = some true) ∧ Aside0 (kq ≤ kj12) ∧ Aside0 (Kd.N k88 88 wc w.heap.size (fun k_ => some k_ ≠ ((.slice Ao29 t370.length co29) : Value).ownBlock ∧ some k_ ≠ ((.slice Ao38 t376.length co38) : Value).ownBlock ∧ k_ ≠ gb354 ∧ k_ ≠ gb367 ∧ k_ ≠ gb373 ∧ k_ ≠ gb380 ∧ k_ ≠ XR.zlt z2_ k_ ∧ k_ ≠ XR.zlt z3_ k_ ∧ k_ ≠ XR.zlt z4_ k_) (.slice Ao21 t363.length co21) t363) ∧ Aside0 (Kd.S k88 88 wc w.heap.size (fun k_ => some k_ ≠ ((.slice Ao21 t363.length co21) : Value).ownBlock ∧ some k_ ≠ ((.slice Ao38 t376.length co38) : Value).ownBlock ∧ k_ ≠ XR.zge z2_ k_ ∧ k_ ≠ XR.zlt z3_ k_ ∧ k_ ≠ XR.zlt z4_ k_) (.slice Ao29 t370.length co29) t389) ∧ Aside0 (Kd.S k88 88 wc w.heap.size (fun k_ => some k_ ≠ ((.slice Ao21 t363.length co21) : Value).ownBlock ∧ some k_ ≠ ((.slice Ao29 t370.length co29) : Value).ownBlock ∧ k_ ≠ XR.zge z3_ k_ ∧ k_ ≠ XR.zlt z4_ k_) (.slice Ao38 t376.length co38) t376) ∧ Aside0 (wc.heap[gb354]? = some (.cells #[.int .i64 a0_0, .int .i64 a0_1, (.slice A0_2 l0_2.length c0_2)] 24 (0, 0))) ∧ Aside0 (wc.heap[gb367]? = some (.cells #[.int .i64 t361, .int .i64 t362, (.slice Ao21 t363.length co21)] 29 (0, 0))) ∧ Aside0 (wc.heap[gb373]? = some (.cells #[.int .i64 t368, .int .i64 t369, (.slice Ao29 t370.length co29)] 29 (0, 0))) ∧ Aside0 (wc.heap[gb380]? = some (.cells #[.int .i64 t374, .int .i64 t375, (.slice Ao38 t376.length co38)] 29 (0, 0))) ∧ Aside0 (Below w.heap.size w wc))
      case first =>
       have H := HC68.out
       clear HC68
       obtain ⟨c74b0, H⟩ | ⟨c74b0, H⟩ := Xit H
       ·(first | rw [c74b0] | (simp only [i64_w, i32_w]; rw [c74b0]) | skip)
        have H' := Aside0.mk H
        clear H
        go_wp2
        go_meet
        case rel => exact ⟨_, (true), Xr, H', ⟨by have := HJ12.out; first | omega | exact Nat.le_refl _⟩, ⟨by (with_reducible repeat (first | apply Kd.N_alloc | apply Kd.N_drewN | apply Kd.N_drew)); exact Kd.N_mono HO_368002.out (fun _ hk => ⟨hk.1.1.1, ⟨hk.1.1.2.1, ⟨hk.1.1.2.2.1, ⟨hk.1.1.2.2.2.1, ⟨hk.1.1.2.2.2.2.1, ⟨hk.1.1.2.2.2.2.2.1, ⟨hk.1.1.2.2.2.2.2.2.1, ⟨hk.1.1.2.2.2.2.2.2.2, hk.2⟩⟩⟩⟩⟩⟩⟩⟩)⟩, ⟨by (with_reducible repeat (first | apply Kd.S_alloc | apply Kd.S_drewN | apply Kd.S_drew)); exact Kd.S_mono HO_374002.out (fun _ hk => ⟨hk.1.1.1.1.1.1.1, ⟨hk.1.1.1.1.1.1.2.1, ⟨hk.1.1.1.1.1.1.2.2.1, ⟨hk.1.1.1.1.1.1.2.2.2, hk.1.1.1.1.2⟩⟩⟩⟩)⟩, ⟨by (with_reducible repeat (first | apply Kd.S_alloc | apply Kd.S_drewN | apply Kd.S_drew)); exact Kd.S_mono HO_381002.out (fun _ hk => ⟨hk.1.1.1, ⟨hk.1.1.2.1, ⟨hk.1.1.2.2, hk.2⟩⟩⟩)⟩, BK354, BK367, BK373, BK380, ⟨Xi⟩⟩
       ·(first | rw [c74b0] | (simp only [i64_w, i32_w]; rw [c74b0]) | skip)
        obtain ⟨t390, A75, H⟩ := Xbi H
        (try dsimp only at H)
        by_cases c76 : t390 = true
        ·subst c76
         (first | rw [if_pos rfl] at H | skip)
         have H' := Aside0.mk H
         clear H
         have hnb77 := NB380_354.out
         have hnc77 := NB354_380.out
         have hnb78 := NB380_367.out
         have hnc78 := NB367_380.out
         have hnb79 := NB380_373.out
         have hnc79 := NB373_380.out
         obtain ⟨hcz80_0, hcz80_1, hcz80_2⟩ := Xc3 BK380
         obtain ⟨hfz80_0, hfz80_1, hfz80_2⟩ := Xf3 BK380
         have hnb81 := NB367_354.out
         have hnc81 := NB354_367.out
         have hnb82 := NB367_373.out
         have hnc82 := NB373_367.out
         obtain ⟨hcz83_0, hcz83_1, hcz83_2⟩ := Xc3 BK367
         obtain ⟨hfz83_0, hfz83_1, hfz83_2⟩ := Xf3 BK367
         go_wp2_with (first | (go_at_call 17; (with_reducible refine (laws_eqDoc.calls kj12 t374 t375 _ _ t376 t361 t362 _ _ t363 true _ ?side1 ?side2 ?side3 ?side4 A75.out).mono ?_); (case side1 => repeat (first | exact (Kd.S_reads' HO_381002.out).2.2 | (with_reducible first | refine Kd.C_alloc ?_ _ | refine Kd.C_drewN ?_ _ | refine Kd.C_drew ?_))); (case side2 => exact (Kd.S_reads' HO_381002.out).2.1); (case side3 => repeat (first | exact (Kd.N_reads' HO_368002.out).2.2 | (with_reducible first | refine Kd.C_alloc ?_ _ | refine Kd.C_drewN ?_ _ | refine Kd.C_drew ?_))); (case side4 => exact (Kd.N_reads' HO_368002.out).2.1); rintro e w84 ⟨rfl, hb⟩; replace HO_368002 := Aside0.mk (Kd.N_below (Xq HO_368002) hb); replace HO_374002 := Aside0.mk (Kd.S_below (Xq HO_374002) hb); replace HO_381002 := Aside0.mk (Kd.S_below (Xq HO_381002) hb); replace HO386 := Aside0.mk (Kd.S_below (Xq HO386) hb); replace BK354 := Xbb BK354 hb; replace BK367 := Xbb BK367 hb; replace BK373 := Xbb BK373 hb; replace BK380 := Xbb BK380 hb; replace HB := Aside0.mk (below_step Xi hb); clear hb))
         go_meet
         case rel => exact ⟨_, ((t379 != t366)), Xr, H', ⟨by have := HJ12.out; first | omega | exact Nat.le_refl _⟩, ⟨by (with_reducible repeat (first | apply Kd.N_alloc | apply Kd.N_drewN | apply Kd.N_drew)); exact Kd.N_mono HO_368002.out (fun _ hk => ⟨hk.1.1.1, ⟨hk.1.1.2.1, ⟨hk.1.1.2.2.1, ⟨hk.1.1.2.2.2.1, ⟨hk.1.1.2.2.2.2.1, ⟨hk.1.1.2.2.2.2.2.1, ⟨hk.1.1.2.2.2.2.2.2.1, ⟨hk.1.1.2.2.2.2.2.2.2, hk.2⟩⟩⟩⟩⟩⟩⟩⟩)⟩, ⟨by (with_reducible repeat (first | apply Kd.S_alloc | apply Kd.S_drewN | apply Kd.S_drew)); exact Kd.S_mono HO_374002.out (fun _ hk => ⟨hk.1.1.1.1.1.1.1, ⟨hk.1.1.1.1.1.1.2.1, ⟨hk.1.1.1.1.1.1.2.2.1, ⟨hk.1.1.1.1.1.1.2.2.2, hk.1.1.1.1.2⟩⟩⟩⟩)⟩, ⟨by (with_reducible repeat (first | apply Kd.S_alloc | apply Kd.S_drewN | apply Kd.S_drew)); exact Kd.S_mono HO_381002.out (fun _ hk => ⟨hk.1.1.1, ⟨hk.1.1.2.1, ⟨hk.1.1.2.2, hk.2⟩⟩⟩)⟩, BK354, BK367, BK373, BK380, ⟨Xi⟩⟩
        ·replace c76 := Bool.eq_false_iff.mpr c76
         subst c76
         (first | rw [if_neg (show ¬ (false = true) by decide)] at H | skip)
         have H' := Aside0.mk H
         clear H
         have hnb85 := NB380_354.out
         have hnc85 := NB354_380.out
         have hnb86 := NB380_367.out
         have hnc86 := NB367_380.out
         have hnb87 := NB380_373.out
         have hnc87 := NB373_380.out
         obtain ⟨hcz88_0, hcz88_1, hcz88_2⟩ := Xc3 BK380
         obtain ⟨hfz88_0, hfz88_1, hfz88_2⟩ := Xf3 BK380
         have hnb89 := NB367_354.out
         have hnc89 := NB354_367.out
         have hnb90 := NB367_373.out
         have hnc90 := NB373_367.out
         obtain ⟨hcz91_0, hcz91_1, hcz91_2⟩ := Xc3 BK367
         obtain ⟨hfz91_0, hfz91_1, hfz91_2⟩ := Xf3 BK367
         go_wp2_with (first | (go_at_call 17; (with_reducible refine (laws_eqDoc.calls kj12 t374 t375 _ _ t376 t361 t362 _ _ t363 false _ ?side1 ?side2 ?side3 ?side4 A75.out).mono ?_); (case side1 => repeat (first | exact (Kd.S_reads' HO_381002.out).2.2 | (with_reducible first | refine Kd.C_alloc ?_ _ | refine Kd.C_drewN ?_ _ | refine Kd.C_drew ?_))); (case side2 => exact (Kd.S_reads' HO_381002.out).2.1); (case side3 => repeat (first | exact (Kd.N_reads' HO_368002.out).2.2 | (with_reducible first | refine Kd.C_alloc ?_ _ | refine Kd.C_drewN ?_ _ | refine Kd.C_drew ?_))); (case side4 => exact (Kd.N_reads' HO_368002.out).2.1); rintro e w92 ⟨rfl, hb⟩; replace HO_368002 := Aside0.mk (Kd.N_below (Xq HO_368002) hb); replace HO_374002 := Aside0.mk (Kd.S_below (Xq HO_374002) hb); replace HO_381002 := Aside0.mk (Kd.S_below (Xq HO_381002) hb); replace HO386 := Aside0.mk (Kd.S_below (Xq HO386) hb); replace BK354 := Xbb BK354 hb; replace BK367 := Xbb BK367 hb; replace BK373 := Xbb BK373 hb; replace BK380 := Xbb BK380 hb; replace HB := Aside0.mk (below_step Xi hb); clear hb))
         go_meet
         case rel => exact ⟨_, (true), Xr, H', ⟨by have := HJ12.out; first | omega | exact Nat.le_refl _⟩, ⟨by (with_reducible repeat (first | apply Kd.N_alloc | apply Kd.N_drewN | apply Kd.N_drew)); exact Kd.N_mono HO_368002.out (fun _ hk => ⟨hk.1.1.1, ⟨hk.1.1.2.1, ⟨hk.1.1.2.2.1, ⟨hk.1.1.2.2.2.1, ⟨hk.1.1.2.2.2.2.1, ⟨hk.1.1.2.2.2.2.2.1, ⟨hk.1.1.2.2.2.2.2.2.1, ⟨hk.1.1.2.2.2.2.2.2.2, hk.2⟩⟩⟩⟩⟩⟩⟩⟩)⟩, ⟨by (with_reducible repeat (first | apply Kd.S_alloc | apply Kd.S_drewN | apply Kd.S_drew)); exact Kd.S_mono HO_374002.out (fun _ hk => ⟨hk.1.1.1.1.1.1.1, ⟨hk.1.1.1.1.1.1.2.1, ⟨hk.1.1.1.1.1.1.2.2.1, ⟨hk.1.1.1.1.1.1.2.2.2, hk.1.1.1.1.2⟩⟩⟩⟩)⟩, ⟨by (with_reducible repeat (first | apply Kd.S_alloc | apply Kd.S_drewN | apply Kd.S_drew)); exact Kd.S_mono HO_381002.out (fun _ hk => ⟨hk.1.1.1, ⟨hk.1.1.2.1, ⟨hk.1.1.2.2, hk.2⟩⟩⟩)⟩, BK354, BK367, BK373, BK380, ⟨Xi⟩⟩
      case rest =>
       clear HC68
       (try clear c8); (try clear c8b0); (try clear c58); (try clear c66); (try clear hcz14_0); (try clear hcz14_1); (try clear hcz14_2); (try clear hcz20_0); (try clear hcz20_1); (try clear hcz20_2); (try clear hcz23_0); (try clear hcz23_1); (try clear hcz23_2); (try clear hcz28_0); (try clear hcz28_1); (try clear hcz28_2); (try clear hcz31_0); (try clear hcz31_1); (try clear hcz31_2); (try clear hcz37_0); (try clear hcz37_1); (try clear hcz37_2); (try clear hcz6_0); (try clear hcz6_1); (try clear hcz6_2); (try clear hcz72_0); (try clear hcz72_1); (try clear hcz72_2); (try clear hfz14_0); (try clear hfz14_1); (try clear hfz14_2); (try clear hfz20_0); (try clear hfz20_1); (try clear hfz20_2); (try clear hfz23_0); (try clear hfz23_1); (try clear hfz23_2); (try clear hfz28_0); (try clear hfz28_1); (try clear hfz28_2); (try clear hfz31_0); (try clear hfz31_1); (try clear hfz31_2); (try clear hfz37_0); (try clear hfz37_1); (try clear hfz37_2); (try clear hfz6_0); (try clear hfz6_1); (try clear hfz6_2); (try clear hfz72_0); (try clear hfz72_1); (try clear hfz72_2)
       obtain ⟨kq, x65_67, rfl, HA, HJ67, HO_368002, HO_374002, HO_381002, BK354, BK367, BK373, BK380, HB⟩ := hcut
       have hl374002_67 := (Kd.S_reads' HO_374002.out).1
       rw [hl374002_67] at HO_374002
       (try simp only [hl374002_67])
       (try simp only [hl374002_67] at BK354)
       (try simp only [hl374002_67] at BK367)
       (try simp only [hl374002_67] at BK373)
       (try simp only [hl374002_67] at BK380)
       (try simp only [hl374002_67] at HO_368002)
       (try simp only [hl374002_67] at HO_381002)
       cases kq with
       | zero => cases HA.out
       | succ kj67 =>
        have H := HA.out
        clear HA
        simp only [laws_FnExactCopySub.j1] at H
        by_cases c93 : x65_67 = true
        ·subst c93
         (first | rw [if_pos rfl] at H | skip)
         cases H
        ·replace c93 := Bool.eq_false_iff.mpr c93
         subst c93
         (first | rw [if_neg (show ¬ (false = true) by decide)] at H | skip)
         replace H := Option.bind_eq_some_iff.mp H
         obtain ⟨⟨t391, t392⟩, A940, H⟩ := H
         (try dsimp only at H)
         have A94 := Aside0.mk A940
         clear A940
         obtain ⟨t393, A95, H⟩ := Xbi H
         (try dsimp only at H)
         have HC96 := Aside0.mk H
         clear H
         have hnb97 := NB380_354.out
         have hnc97 := NB354_380.out
         have hnb98 := NB380_367.out
         have hnc98 := NB367_380.out
         have hnb99 := NB380_373.out
         have hnc99 := NB373_380.out
         obtain ⟨hcz100_0, hcz100_1, hcz100_2⟩ := Xc3 BK380
         obtain ⟨hfz100_0, hfz100_1, hfz100_2⟩ := Xf3 BK380
         go_upto_if 73 with (first | ((with_reducible refine gate_callee (f := 23) rfl ?_); refine Xgo 68 Try.func23 #[.agg #[.int .i64 t374, .int .i64 t375, .slice Ao38 t376.length co38], .int .i64 1] ?_; (with_reducible refine (laws_markDoc.calls kj67 t374 t375 (fun k_ => (((((some k_ ≠ (.slice Ao21 t363.length co21 : Value).ownBlock ∧ (some k_ ≠ (.slice Ao29 t389.length co29 : Value).ownBlock ∧ (k_ ≠ XR.zge z3_ k_ ∧ k_ ≠ XR.zlt z4_ k_))) ∧ k_ ≠ gb354) ∧ k_ ≠ gb367) ∧ k_ ≠ gb373) ∧ k_ ≠ gb380)) (.slice Ao38 t376.length co38) t376 1 t391 t392 w _ ?side1 ?side2 A94.out).mono ?_); (case side1 => exact Xi); (case side2 => (with_reducible repeat (first | apply Kd.S_alloc | apply Kd.S_drewN | apply Kd.S_drew)); exact (Kd.S_types (Kd.S_types (Kd.S_types (Kd.S_types HO_381002.out BK354.out (by decide)) BK367.out (by decide)) BK373.out (by decide)) BK380.out (by decide))); rintro e w101 ⟨rfl, hy0, hb, hkp⟩; refine ⟨_, rfl, ?_⟩; replace HO_368002 := Aside0.mk (Kd.N_mono (Kd.N_keptB (HO_368002.out) hkp (fun k_ hk_ hs_ => XR.zno (hs_.1.1.1.1.2.2.1) (hk_.2.2.2.2.2.2.2.1))) (fun _ hk_ => hk_.1)); replace HO_374002 := Aside0.mk (Kd.S_mono (Kd.S_keptB (HO_374002.out) hkp (fun k_ hk_ hs_ => XR.zno (hs_.1.1.1.1.2.2.1) (hk_.2.2.2.1))) (fun _ hk_ => hk_.1)); replace HO_381002 := Aside0.mk (hy0); replace BK354 := Aside0.mk (blk_kept BK354.out hkp (fun hs_ => (hs_.1.1.1.2) rfl)); replace BK367 := Aside0.mk (blk_kept BK367.out hkp (fun hs_ => (hs_.1.1.2) rfl)); replace BK373 := Aside0.mk (blk_kept BK373.out hkp (fun hs_ => (hs_.1.2) rfl)); replace BK380 := Aside0.mk (blk_kept BK380.out hkp (fun hs_ => (hs_.2) rfl)); replace HB := Aside0.mk (hb); (try clear hb); (try clear hkp); (try clear hy0); obtain ⟨hcz102_0, hcz102_1, hcz102_2⟩ := Xc3 BK380; obtain ⟨hfz102_0, hfz102_1, hfz102_2⟩ := Xf3 BK380) | ((with_reducible refine gate_callee (f := 28) rfl ?_); refine goesL_ (some 71) rfl rfl Try.func28 (by kernel_rfl) rfl #[.agg #[.int .i64 t374, .int .i64 t375, .slice Ao38 t392.length co38], .int .i64 1] rfl (by (try simp only [List.map_toArray, List.map_cons, List.map_nil]); first | done | (rw [show t392.length = t376.length from (Kd.S_reads' HO_381002.out).1.symm] <;> rfl) | rfl | (simp only [List.length_drop, List.length_take]; rfl)) ?_; (with_reducible refine (laws_heldDoc.calls kj67 t374 t375 _ _ t392 1 t393 _ ?side1 ?side2 A95.out).mono ?_); (case side1 => repeat (first | exact (Kd.S_reads' HO_381002.out).2.2 | (with_reducible first | refine Kd.C_alloc ?_ _ | refine Kd.C_drewN ?_ _ | refine Kd.C_drew ?_))); (case side2 => rw [show t392.length = t376.length from (Kd.S_reads' HO_381002.out).1.symm]; exact (Kd.S_reads' HO_381002.out).2.1); rintro e w103 ⟨rfl, hb⟩; refine ⟨_, rfl, ?_⟩; replace HO_368002 := Aside0.mk (Kd.N_below (Xq HO_368002) hb); replace HO_374002 := Aside0.mk (Kd.S_below (Xq HO_374002) hb); replace HO_381002 := Aside0.mk (Kd.S_below (Xq HO_381002) hb); replace BK354 := Xbb BK354 hb; replace BK367 := Xbb BK367 hb; replace BK373 := Xbb BK373 hb; replace BK380 := Xbb BK380 hb; replace HB := Aside0.mk (below_step Xi hb); clear hb))
         have H := HC96.out
         clear HC96
         obtain ⟨c104b0, H⟩ | ⟨c104b0, H⟩ := Xit H
         ·(first | rw [c104b0] | (simp only [i64_w, i32_w]; rw [c104b0]) | skip)
          cases H
         ·(first | rw [c104b0] | (simp only [i64_w, i32_w]; rw [c104b0]) | skip)
          obtain ⟨c105, H⟩ | ⟨c105, H⟩ := Xiu H
          ·have c105b0 : (t393 == t391) = true := beq_iff_eq.mpr c105
           have c105b1 : (t393 != t391) = false := bne_eq_false_iff_eq.mpr c105
           clear c105
           replace H := Option.bind_eq_some_iff.mp H
           obtain ⟨⟨t394, t395, t396⟩, A1060, H⟩ := H
           (try dsimp only at H)
           have A106 := Aside0.mk A1060
           clear A1060
           replace H := Option.bind_eq_some_iff.mp H
           obtain ⟨⟨t399, t400, t401, t404⟩, A1070, H⟩ := H
           (try dsimp only at H)
           have A107 := Aside0.mk A1070
           clear A1070
           have HC108 := Aside0.mk H
           clear H
           have hnb109 := NB354_367.out
           have hnc109 := NB367_354.out
           have hnb110 := NB354_373.out
           have hnc110 := NB373_354.out
           have hnb111 := NB354_380.out
           have hnc111 := NB380_354.out
           obtain ⟨hcz112_0, hcz112_1, hcz112_2⟩ := Xc3 BK354
           obtain ⟨hfz112_0, hfz112_1, hfz112_2⟩ := Xf3 BK354
           go_upto_region 25 with (first | ((with_reducible refine gate_callee (f := 15) rfl ?_); refine Xgo 79 Try.func15 #[.agg #[.int .i64 a0_0, .int .i64 a0_1, .slice A0_2 l0_2.length c0_2]] ?_; (with_reducible refine (laws_toDoc.calls kj67 a0_0 a0_1 _ _ l0_2 t394 t395 t396 _ ?side1 ?side2 A106.out).mono ?_); (case side1 => exact Xc HR0_2); (case side2 => exact HC0_2.out); rintro e w113 ⟨v397, rfl, ho0, hb⟩; refine ⟨_, rfl, ?_⟩; obtain ⟨z5_, hzz5_⟩ := XR.zat ho0; have HO398 := Aside0.mk (Kd.S_lower (Kd.S_new' (Kd.S_new' (Kd.S_new' (XR.S_newZ ho0 hzz5_) (Kd.N_lt (Xq HO_368002))) (Kd.S_lt (Xq HO_374002))) (Kd.S_lt (Xq HO_381002))) (below_size Xi)); replace HO_368002 := Aside0.mk (XR.N_elderZ (Xq HO_368002) (Kd.S_base ho0) hb hzz5_); replace HO_374002 := Aside0.mk (XR.S_elderZ (Xq HO_374002) (Kd.S_base ho0) hb hzz5_); replace HO_381002 := Aside0.mk (XR.S_elderZ (Xq HO_381002) (Kd.S_base ho0) hb hzz5_); replace BK354 := Xbb BK354 hb; replace BK367 := Xbb BK367 hb; replace BK373 := Xbb BK373 hb; replace BK380 := Xbb BK380 hb; replace HB := Aside0.mk (below_step Xi hb); clear hb; (try clear ho0); (try clear hzz5_); obtain ⟨Ao114, co114, eo114⟩ := Kd.S_slice HO398.out; subst eo114) | ((with_reducible refine gate_callee (f := 27) rfl ?_); refine Xgo 81 Try.func27 #[.agg #[.int .i64 t394, .int .i64 t395, .slice Ao114 t396.length co114], .int .i64 a1] ?_; (with_reducible refine (impl_CopySub.calls kj67 t394 t395 _ _ t396 a1 t399 t400 t401 t404 _ ?side1 ?side2 A107.out).mono ?_); (case side1 => repeat (first | exact (Kd.S_reads' HO398.out).2.2 | (with_reducible first | refine Kd.C_alloc ?_ _ | refine Kd.C_drewN ?_ _ | refine Kd.C_drew ?_))); (case side2 => exact (Kd.S_reads' HO398.out).2.1); rintro e w115 ⟨v402, rfl, ho0, hb⟩; refine ⟨_, rfl, ?_⟩; obtain ⟨z6_, hzz6_⟩ := XR.zat ho0; have HO403 := Aside0.mk (Kd.S_lower (Kd.S_new' (Kd.S_new' (Kd.S_new' (Kd.S_new' (XR.S_newZ ho0 hzz6_) (Kd.N_lt (Xq HO_368002))) (Kd.S_lt (Xq HO_374002))) (Kd.S_lt (Xq HO_381002))) (Kd.S_lt (Xq HO398))) (below_size Xi)); replace HO_368002 := Aside0.mk (XR.N_elderZ (Xq HO_368002) (Kd.S_base ho0) hb hzz6_); replace HO_374002 := Aside0.mk (XR.S_elderZ (Xq HO_374002) (Kd.S_base ho0) hb hzz6_); replace HO_381002 := Aside0.mk (XR.S_elderZ (Xq HO_381002) (Kd.S_base ho0) hb hzz6_); replace HO398 := Aside0.mk (XR.S_elderZ (Xq HO398) (Kd.S_base ho0) hb hzz6_); replace BK354 := Xbb BK354 hb; replace BK367 := Xbb BK367 hb; replace BK373 := Xbb BK373 hb; replace BK380 := Xbb BK380 hb; replace HB := Aside0.mk (below_step Xi hb); clear hb; (try clear ho0); (try clear hzz6_)) | ((with_reducible refine gate_dst (N := 14) rfl ?_); refine Xbox 14 #[.int .i64 0, .int .i64 0, .slice none 0 0] 29 ?_; intro gb405 hg w116 hbox hb; replace HO_368002 := Aside0.mk (Kd.N_below (Kd.N_elderB (Xq HO_368002) gb405 (Nat.le_of_eq hg.symm)) hb); replace HO_374002 := Aside0.mk (Kd.S_below (Xq HO_374002) hb); replace HO_381002 := Aside0.mk (Kd.S_below (Xq HO_381002) hb); replace HO398 := Aside0.mk (Kd.S_below (Xq HO398) hb); replace HO403 := Aside0.mk (Kd.S_below (Xq HO403) hb); have BK405 := Aside0.mk (hbox); have GE405 := Xge hg Xi; replace HB := Aside0.mk (below_step Xi hb); have NB354_405 := Xnb hg BK354; have NB405_354 := Xns NB354_405; replace BK354 := Xbb BK354 hb; have NB367_405 := Xnb hg BK367; have NB405_367 := Xns NB367_405; replace BK367 := Xbb BK367 hb; have NB373_405 := Xnb hg BK373; have NB405_373 := Xns NB373_405; replace BK373 := Xbb BK373 hb; have NB380_405 := Xnb hg BK380; have NB405_380 := Xns NB380_405; replace BK380 := Xbb BK380 hb; clear hb hbox hg; have hnb117 := NB405_354.out; have hnc117 := NB354_405.out; have hnb118 := NB405_367.out; have hnc118 := NB367_405.out; have hnb119 := NB405_373.out; have hnc119 := NB373_405.out; have hnb120 := NB405_380.out; have hnc120 := NB380_405.out; obtain ⟨hcz121_0, hcz121_1, hcz121_2⟩ := Xc3 BK405; obtain ⟨hfz121_0, hfz121_1, hfz121_2⟩ := Xf3 BK405; obtain ⟨Ao122, co122, eo122⟩ := Kd.S_slice HO403.out; subst eo122) | ((with_reducible refine gate_store (t := 29) (p := 14) rfl ?_); refine store_event (t := 29) (p := 14) (v := ?vo_w123) (w1 := (((w116.setCell ⟨gb405, 0, none⟩ (.int .i64 t399)).setCell ⟨gb405, 1, none⟩ (.int .i64 t400)).setCell ⟨gb405, 2, none⟩ (.slice Ao122 t401.length co122))) ?hg ?ho ?hn ?hr ?_; (case ho => rfl); (case hg => rfl); (case hn => rfl); (case hr => first | (go_simp; done) | (go_simp; rfl)); intro w123 hw; have n0_ : Aside0 (Kd.N k88 88 w123 w.heap.size (fun k_ => some k_ ≠ (.slice Ao29 t389.length co29 : Value).ownBlock ∧ some k_ ≠ (.slice Ao38 t376.length co38 : Value).ownBlock ∧ some k_ ≠ (.slice Ao114 t396.length co114 : Value).ownBlock ∧ some k_ ≠ (.slice Ao122 t401.length co122 : Value).ownBlock ∧ k_ ≠ gb354 ∧ k_ ≠ gb367 ∧ k_ ≠ gb373 ∧ k_ ≠ gb380 ∧ k_ ≠ XR.zlt z2_ k_ ∧ k_ ≠ XR.zlt z3_ k_ ∧ k_ ≠ XR.zlt z4_ k_ ∧ k_ ≠ XR.zlt z5_ k_ ∧ k_ ≠ XR.zlt z6_ k_ ∧ k_ ≠ gb405) (.slice Ao21 t363.length co21) t363) := ⟨(by rw [hw]; exact (by (with_reducible repeat (first | apply Kd.N_alloc | apply Kd.N_drewN | apply Kd.N_drew)); exact Kd.N_mono (Kd.N_far (p := ⟨gb405, 2, none⟩) (Kd.N_far (p := ⟨gb405, 1, none⟩) (Kd.N_far (p := ⟨gb405, 0, none⟩) (Kd.N_mono HO_368002.out (fun k_ hk => (⟨hk, hk.2⟩ : _ ∧ k_ ≠ gb405))) (fun _ hk => hk.2) (.int .i64 t399)) (fun _ hk => hk.2) (.int .i64 t400)) (fun _ hk => hk.2) (.slice Ao122 t401.length co122)) (fun _ hk => ⟨hk.1.1.1.1.1.1.1, ⟨hk.1.1.1.1.1.1.2.1, ⟨hk.1.1.1.1.1.2, ⟨hk.1.1.1.2, ⟨hk.1.1.1.1.1.1.2.2.1, ⟨hk.1.1.1.1.1.1.2.2.2.1, ⟨hk.1.1.1.1.1.1.2.2.2.2.1, ⟨hk.1.1.1.1.1.1.2.2.2.2.2.1, ⟨hk.1.1.1.1.1.1.2.2.2.2.2.2.1, ⟨hk.1.1.1.1.1.1.2.2.2.2.2.2.2.1, ⟨hk.1.1.1.1.1.1.2.2.2.2.2.2.2.2, ⟨hk.1.1.1.1.2, ⟨hk.1.1.2, hk.1.2⟩⟩⟩⟩⟩⟩⟩⟩⟩⟩⟩⟩⟩)))⟩; have n1_ : Aside0 (Kd.S k88 88 w123 w.heap.size (fun k_ => some k_ ≠ (.slice Ao21 t363.length co21 : Value).ownBlock ∧ some k_ ≠ (.slice Ao38 t376.length co38 : Value).ownBlock ∧ some k_ ≠ (.slice Ao114 t396.length co114 : Value).ownBlock ∧ some k_ ≠ (.slice Ao122 t401.length co122 : Value).ownBlock ∧ k_ ≠ XR.zge z2_ k_ ∧ k_ ≠ XR.zlt z3_ k_ ∧ k_ ≠ XR.zlt z4_ k_ ∧ k_ ≠ XR.zlt z5_ k_ ∧ k_ ≠ XR.zlt z6_ k_) (.slice Ao29 t389.length co29) t389) := ⟨(by rw [hw]; exact (by (with_reducible repeat (first | apply Kd.S_alloc | apply Kd.S_drewN | apply Kd.S_drew)); exact Kd.S_mono (Kd.S_far (p := ⟨gb405, 2, none⟩) (Kd.S_far (p := ⟨gb405, 1, none⟩) (Kd.S_far (p := ⟨gb405, 0, none⟩) (Kd.S_types HO_374002.out BK405.out (by decide)) (fun _ hk => hk.2) (.int .i64 t399)) (fun _ hk => hk.2) (.int .i64 t400)) (fun _ hk => hk.2) (.slice Ao122 t401.length co122)) (fun _ hk => ⟨hk.1.1.1.1.1.1, ⟨hk.1.1.1.1.1.2.1, ⟨hk.1.1.1.1.2, ⟨hk.1.1.2, ⟨hk.1.1.1.1.1.2.2.1, ⟨hk.1.1.1.1.1.2.2.2.1, ⟨hk.1.1.1.1.1.2.2.2.2, ⟨hk.1.1.1.2, hk.1.2⟩⟩⟩⟩⟩⟩⟩⟩)))⟩; have n2_ : Aside0 (Kd.S k88 88 w123 w.heap.size (fun k_ => some k_ ≠ (.slice Ao21 t363.length co21 : Value).ownBlock ∧ some k_ ≠ (.slice Ao29 t389.length co29 : Value).ownBlock ∧ some k_ ≠ (.slice Ao114 t396.length co114 : Value).ownBlock ∧ some k_ ≠ (.slice Ao122 t401.length co122 : Value).ownBlock ∧ k_ ≠ XR.zge z3_ k_ ∧ k_ ≠ XR.zlt z4_ k_ ∧ k_ ≠ gb354 ∧ k_ ≠ gb367 ∧ k_ ≠ gb373 ∧ k_ ≠ gb380 ∧ k_ ≠ XR.zlt z5_ k_ ∧ k_ ≠ XR.zlt z6_ k_) (.slice Ao38 t376.length co38) t392) := ⟨(by rw [hw]; exact (by (with_reducible repeat (first | apply Kd.S_alloc | apply Kd.S_drewN | apply Kd.S_drew)); exact Kd.S_mono (Kd.S_far (p := ⟨gb405, 2, none⟩) (Kd.S_far (p := ⟨gb405, 1, none⟩) (Kd.S_far (p := ⟨gb405, 0, none⟩) (Kd.S_types HO_381002.out BK405.out (by decide)) (fun _ hk => hk.2) (.int .i64 t399)) (fun _ hk => hk.2) (.int .i64 t400)) (fun _ hk => hk.2) (.slice Ao122 t401.length co122)) (fun _ hk => ⟨hk.1.1.1.1.1.1.1.1.1.1, ⟨hk.1.1.1.1.1.1.1.1.1.2.1, ⟨hk.1.1.1.1.2, ⟨hk.1.1.2, ⟨hk.1.1.1.1.1.1.1.1.1.2.2.1, ⟨hk.1.1.1.1.1.1.1.1.1.2.2.2, ⟨hk.1.1.1.1.1.1.1.1.2, ⟨hk.1.1.1.1.1.1.1.2, ⟨hk.1.1.1.1.1.1.2, ⟨hk.1.1.1.1.1.2, ⟨hk.1.1.1.2, hk.1.2⟩⟩⟩⟩⟩⟩⟩⟩⟩⟩⟩)))⟩; have n3_ : Aside0 (Kd.S k88 88 w123 w.heap.size (fun k_ => some k_ ≠ (.slice Ao21 t363.length co21 : Value).ownBlock ∧ some k_ ≠ (.slice Ao29 t389.length co29 : Value).ownBlock ∧ some k_ ≠ (.slice Ao38 t376.length co38 : Value).ownBlock ∧ some k_ ≠ (.slice Ao122 t401.length co122 : Value).ownBlock ∧ k_ ≠ XR.zge z5_ k_ ∧ k_ ≠ XR.zlt z6_ k_) (.slice Ao114 t396.length co114) t396) := ⟨(by rw [hw]; exact (by (with_reducible repeat (first | apply Kd.S_alloc | apply Kd.S_drewN | apply Kd.S_drew)); exact Kd.S_mono (Kd.S_far (p := ⟨gb405, 2, none⟩) (Kd.S_far (p := ⟨gb405, 1, none⟩) (Kd.S_far (p := ⟨gb405, 0, none⟩) (Kd.S_types HO398.out BK405.out (by decide)) (fun _ hk => hk.2) (.int .i64 t399)) (fun _ hk => hk.2) (.int .i64 t400)) (fun _ hk => hk.2) (.slice Ao122 t401.length co122)) (fun _ hk => ⟨hk.1.1.1.1.1.2, ⟨hk.1.1.1.1.2, ⟨hk.1.1.1.2, ⟨hk.1.1.2, ⟨hk.1.1.1.1.1.1.2, hk.1.2⟩⟩⟩⟩⟩)))⟩; have n4_ : Aside0 (Kd.S k88 88 w123 w.heap.size (fun k_ => some k_ ≠ (.slice Ao21 t363.length co21 : Value).ownBlock ∧ some k_ ≠ (.slice Ao29 t389.length co29 : Value).ownBlock ∧ some k_ ≠ (.slice Ao38 t376.length co38 : Value).ownBlock ∧ some k_ ≠ (.slice Ao114 t396.length co114 : Value).ownBlock ∧ k_ ≠ XR.zge z6_ k_) (.slice Ao122 t401.length co122) t401) := ⟨(by rw [hw]; exact (by (with_reducible repeat (first | apply Kd.S_alloc | apply Kd.S_drewN | apply Kd.S_drew)); exact Kd.S_mono (Kd.S_far (p := ⟨gb405, 2, none⟩) (Kd.S_far (p := ⟨gb405, 1, none⟩) (Kd.S_far (p := ⟨gb405, 0, none⟩) (Kd.S_types HO403.out BK405.out (by decide)) (fun _ hk => hk.2) (.int .i64 t399)) (fun _ hk => hk.2) (.int .i64 t400)) (fun _ hk => hk.2) (.slice Ao122 t401.length co122)) (fun _ hk => ⟨hk.1.1.1.1.2, ⟨hk.1.1.1.2, ⟨hk.1.1.2, ⟨hk.1.2, hk.1.1.1.1.1.2⟩⟩⟩⟩)))⟩; have n5_ : Aside0 (w123.heap[gb354]? = some (.cells #[.int .i64 a0_0, .int .i64 a0_1, .slice A0_2 l0_2.length c0_2] 24 (0, 0))) := ⟨(by rw [hw]; exact (by (with_reducible repeat (first | refine blk_drewN ?_ _ | refine blk_drew ?_ | refine blk_alloc ?_ _)); refine blk_far ?_ NB354_405.out _; (with_reducible repeat (first | refine blk_drewN ?_ _ | refine blk_drew ?_ | refine blk_alloc ?_ _)); refine blk_far ?_ NB354_405.out _; (with_reducible repeat (first | refine blk_drewN ?_ _ | refine blk_drew ?_ | refine blk_alloc ?_ _)); refine blk_far ?_ NB354_405.out _; (with_reducible repeat (first | refine blk_drewN ?_ _ | refine blk_drew ?_ | refine blk_alloc ?_ _)); exact BK354.out))⟩; have n6_ : Aside0 (w123.heap[gb367]? = some (.cells #[.int .i64 t361, .int .i64 t362, .slice Ao21 t363.length co21] 29 (0, 0))) := ⟨(by rw [hw]; exact (by (with_reducible repeat (first | refine blk_drewN ?_ _ | refine blk_drew ?_ | refine blk_alloc ?_ _)); refine blk_far ?_ NB367_405.out _; (with_reducible repeat (first | refine blk_drewN ?_ _ | refine blk_drew ?_ | refine blk_alloc ?_ _)); refine blk_far ?_ NB367_405.out _; (with_reducible repeat (first | refine blk_drewN ?_ _ | refine blk_drew ?_ | refine blk_alloc ?_ _)); refine blk_far ?_ NB367_405.out _; (with_reducible repeat (first | refine blk_drewN ?_ _ | refine blk_drew ?_ | refine blk_alloc ?_ _)); exact BK367.out))⟩; have n7_ : Aside0 (w123.heap[gb373]? = some (.cells #[.int .i64 t368, .int .i64 t369, .slice Ao29 t389.length co29] 29 (0, 0))) := ⟨(by rw [hw]; exact (by (with_reducible repeat (first | refine blk_drewN ?_ _ | refine blk_drew ?_ | refine blk_alloc ?_ _)); refine blk_far ?_ NB373_405.out _; (with_reducible repeat (first | refine blk_drewN ?_ _ | refine blk_drew ?_ | refine blk_alloc ?_ _)); refine blk_far ?_ NB373_405.out _; (with_reducible repeat (first | refine blk_drewN ?_ _ | refine blk_drew ?_ | refine blk_alloc ?_ _)); refine blk_far ?_ NB373_405.out _; (with_reducible repeat (first | refine blk_drewN ?_ _ | refine blk_drew ?_ | refine blk_alloc ?_ _)); exact BK373.out))⟩; have n8_ : Aside0 (w123.heap[gb380]? = some (.cells #[.int .i64 t374, .int .i64 t375, .slice Ao38 t376.length co38] 29 (0, 0))) := ⟨(by rw [hw]; exact (by (with_reducible repeat (first | refine blk_drewN ?_ _ | refine blk_drew ?_ | refine blk_alloc ?_ _)); refine blk_far ?_ NB380_405.out _; (with_reducible repeat (first | refine blk_drewN ?_ _ | refine blk_drew ?_ | refine blk_alloc ?_ _)); refine blk_far ?_ NB380_405.out _; (with_reducible repeat (first | refine blk_drewN ?_ _ | refine blk_drew ?_ | refine blk_alloc ?_ _)); refine blk_far ?_ NB380_405.out _; (with_reducible repeat (first | refine blk_drewN ?_ _ | refine blk_drew ?_ | refine blk_alloc ?_ _)); exact BK380.out))⟩; have n9_ : Aside0 (w123.heap[gb405]? = some (.cells #[.int .i64 t399, .int .i64 t400, .slice Ao122 t401.length co122] 29 (0, 0))) := ⟨(by rw [hw]; exact (by (with_reducible repeat (first | refine blk_drewN ?_ _ | refine blk_drew ?_ | refine blk_alloc ?_ _)); refine blk_put (cs := #[.int .i64 t399, .int .i64 t400, .slice none 0 0]) ?_ 2 _ rfl; (with_reducible repeat (first | refine blk_drewN ?_ _ | refine blk_drew ?_ | refine blk_alloc ?_ _)); refine blk_put (cs := #[.int .i64 t399, .int .i64 0, .slice none 0 0]) ?_ 1 _ rfl; (with_reducible repeat (first | refine blk_drewN ?_ _ | refine blk_drew ?_ | refine blk_alloc ?_ _)); refine blk_put (cs := #[.int .i64 0, .int .i64 0, .slice none 0 0]) ?_ 0 _ rfl; (with_reducible repeat (first | refine blk_drewN ?_ _ | refine blk_drew ?_ | refine blk_alloc ?_ _)); exact BK405.out))⟩; have n10_ : Aside0 (Below w.heap.size w w123) := ⟨(by rw [hw]; exact Xi)⟩; clear hw; clear HO_368002; clear HO_374002; clear HO_381002; clear HO398; clear HO403; clear BK354; clear BK367; clear BK373; clear BK380; clear BK405; clear HB; have HO_368002 := n0_; have HO_374002 := n1_; have HO_381002 := n2_; have HO398 := n3_; have HO403 := n4_; have BK354 := n5_; have BK367 := n6_; have BK373 := n7_; have BK380 := n8_; have BK405 := n9_; have HB := n10_; clear n0_ n1_ n2_ n3_ n4_ n5_ n6_ n7_ n8_ n9_ n10_))
           (try simp only [XW.q0, XW.q1, XW.q2])
           go_cut [92] (fun v92 wc => ∃ (kq : Nat) (x92_107 : Bool), v92 = .bool x92_107 ∧ Aside0 (laws_FnExactCopySub.j2 kq t391 x92_107 t374 t375 t392 = some true) ∧ Aside0 (kq ≤ kj67) ∧ Aside0 (Kd.N k88 88 wc w.heap.size (fun k_ => some k_ ≠ ((.slice Ao29 t389.length co29) : Value).ownBlock ∧ some k_ ≠ ((.slice Ao38 t376.length co38) : Value).ownBlock ∧ some k_ ≠ ((.slice Ao122 t401.length co122) : Value).ownBlock ∧ k_ ≠ gb354 ∧ k_ ≠ gb367 ∧ k_ ≠ gb373 ∧ k_ ≠ gb380 ∧ k_ ≠ gb405 ∧ k_ ≠ XR.zlt z2_ k_ ∧ k_ ≠ XR.zlt z3_ k_ ∧ k_ ≠ XR.zlt z4_ k_ ∧ k_ ≠ XR.zlt z5_ k_ ∧ k_ ≠ XR.zlt z6_ k_) (.slice Ao21 t363.length co21) t363) ∧ Aside0 (Kd.S k88 88 wc w.heap.size (fun k_ => some k_ ≠ ((.slice Ao21 t363.length co21) : Value).ownBlock ∧ some k_ ≠ ((.slice Ao38 t376.length co38) : Value).ownBlock ∧ some k_ ≠ ((.slice Ao122 t401.length co122) : Value).ownBlock ∧ k_ ≠ XR.zge z2_ k_ ∧ k_ ≠ XR.zlt z3_ k_ ∧ k_ ≠ XR.zlt z4_ k_ ∧ k_ ≠ XR.zlt z5_ k_ ∧ k_ ≠ XR.zlt z6_ k_) (.slice Ao29 t389.length co29) t389) ∧ Aside0 (Kd.S k88 88 wc w.heap.size (fun k_ => some k_ ≠ ((.slice Ao21 t363.length co21) : Value).ownBlock ∧ some k_ ≠ ((.slice Ao29 t389.length co29) : Value).ownBlock ∧ some k_ ≠ ((.slice Ao122 t401.length co122) : Value).ownBlock ∧ k_ ≠ XR.zge z3_ k_ ∧ k_ ≠ XR.zlt z4_ k_ ∧ k_ ≠ XR.zlt z5_ k_ ∧ k_ ≠ XR.zlt z6_ k_) (.slice Ao38 t376.length co38) t392) ∧ Aside0 (Kd.S k88 88 wc w.heap.size (fun k_ => some k_ ≠ ((.slice Ao21 t363.length co21) : Value).ownBlock ∧ some k_ ≠ ((.slice Ao29 t389.length co29) : Value).ownBlock ∧ some k_ ≠ ((.slice Ao38 t376.length co38) : Value).ownBlock ∧ k_ ≠ XR.zge z6_ k_) (.slice Ao122 t401.length co122) t401) ∧ Aside0 (wc.heap[gb354]? = some (.cells #[.int .i64 a0_0, .int .i64 a0_1, (.slice A0_2 l0_2.length c0_2)] 24 (0, 0))) ∧ Aside0 (wc.heap[gb367]? = some (.cells #[.int .i64 t361, .int .i64 t362, (.slice Ao21 t363.length co21)] 29 (0, 0))) ∧ Aside0 (wc.heap[gb373]? = some (.cells #[.int .i64 t368, .int .i64 t369, (.slice Ao29 t389.length co29)] 29 (0, 0))) ∧ Aside0 (wc.heap[gb380]? = some (.cells #[.int .i64 t374, .int .i64 t375, (.slice Ao38 t376.length co38)] 29 (0, 0))) ∧ Aside0 (wc.heap[gb405]? = some (.cells #[.int .i64 t399, .int .i64 t400, (.slice Ao122 t401.length co122)] 29 (0, 0))) ∧ Aside0 (Below w.heap.size w wc))
           case first =>
            have H := HC108.out
            clear HC108
            obtain ⟨t406, A124, H⟩ := Xbi H
            (try dsimp only at H)
            by_cases c125 : t406 = true
            ·subst c125
             (first | rw [if_pos rfl] at H | skip)
             have H' := Aside0.mk H
             clear H
             have hnb126 := NB405_354.out
             have hnc126 := NB354_405.out
             have hnb127 := NB405_367.out
             have hnc127 := NB367_405.out
             have hnb128 := NB405_373.out
             have hnc128 := NB373_405.out
             have hnb129 := NB405_380.out
             have hnc129 := NB380_405.out
             obtain ⟨hcz130_0, hcz130_1, hcz130_2⟩ := Xc3 BK405
             obtain ⟨hfz130_0, hfz130_1, hfz130_2⟩ := Xf3 BK405
             have hnb131 := NB367_354.out
             have hnc131 := NB354_367.out
             have hnb132 := NB367_373.out
             have hnc132 := NB373_367.out
             have hnb133 := NB367_380.out
             have hnc133 := NB380_367.out
             obtain ⟨hcz134_0, hcz134_1, hcz134_2⟩ := Xc3 BK367
             obtain ⟨hfz134_0, hfz134_1, hfz134_2⟩ := Xf3 BK367
             go_wp2_with (first | ((with_reducible refine gate_callee (f := 17) rfl ?_); refine Xgo 86 Try.func17 #[.agg #[.int .i64 t399, .int .i64 t400, .slice Ao122 t401.length co122], .agg #[.int .i64 t361, .int .i64 t362, .slice Ao21 t363.length co21]] ?_; (with_reducible refine (laws_eqDoc.calls kj67 t399 t400 _ _ t401 t361 t362 _ _ t363 true _ ?side1 ?side2 ?side3 ?side4 A124.out).mono ?_); (case side1 => repeat (first | exact (Kd.S_reads' HO403.out).2.2 | (with_reducible first | refine Kd.C_alloc ?_ _ | refine Kd.C_drewN ?_ _ | refine Kd.C_drew ?_))); (case side2 => exact (Kd.S_reads' HO403.out).2.1); (case side3 => repeat (first | exact (Kd.N_reads' HO_368002.out).2.2 | (with_reducible first | refine Kd.C_alloc ?_ _ | refine Kd.C_drewN ?_ _ | refine Kd.C_drew ?_))); (case side4 => exact (Kd.N_reads' HO_368002.out).2.1); rintro e w135 ⟨rfl, hb⟩; refine ⟨_, rfl, ?_⟩; replace HO_368002 := Aside0.mk (Kd.N_below (Xq HO_368002) hb); replace HO_374002 := Aside0.mk (Kd.S_below (Xq HO_374002) hb); replace HO_381002 := Aside0.mk (Kd.S_below (Xq HO_381002) hb); replace HO398 := Aside0.mk (Kd.S_below (Xq HO398) hb); replace HO403 := Aside0.mk (Kd.S_below (Xq HO403) hb); replace BK354 := Xbb BK354 hb; replace BK367 := Xbb BK367 hb; replace BK373 := Xbb BK373 hb; replace BK380 := Xbb BK380 hb; replace BK405 := Xbb BK405 hb; replace HB := Aside0.mk (below_step Xi hb); clear hb))
             go_meet
             case rel => exact ⟨_, ((t404 != t366)), Xr, H', ⟨by have := HJ12.out; have := HJ67.out; first | omega | exact Nat.le_refl _⟩, ⟨by (try simp only [hl374002_67]); (with_reducible repeat (first | apply Kd.N_alloc | apply Kd.N_drewN | apply Kd.N_drew)); exact Kd.N_mono HO_368002.out (fun _ hk => ⟨hk.1, ⟨hk.2.1, ⟨hk.2.2.2.1, ⟨hk.2.2.2.2.1, ⟨hk.2.2.2.2.2.1, ⟨hk.2.2.2.2.2.2.1, ⟨hk.2.2.2.2.2.2.2.1, ⟨hk.2.2.2.2.2.2.2.2.2.2.2.2.2, ⟨hk.2.2.2.2.2.2.2.2.1, ⟨hk.2.2.2.2.2.2.2.2.2.1, ⟨hk.2.2.2.2.2.2.2.2.2.2.1, ⟨hk.2.2.2.2.2.2.2.2.2.2.2.1, hk.2.2.2.2.2.2.2.2.2.2.2.2.1⟩⟩⟩⟩⟩⟩⟩⟩⟩⟩⟩⟩)⟩, ⟨by (try simp only [hl374002_67]); (with_reducible repeat (first | apply Kd.S_alloc | apply Kd.S_drewN | apply Kd.S_drew)); exact Kd.S_mono HO_374002.out (fun _ hk => ⟨hk.1, ⟨hk.2.1, ⟨hk.2.2.2.1, ⟨hk.2.2.2.2.1, ⟨hk.2.2.2.2.2.1, ⟨hk.2.2.2.2.2.2.1, ⟨hk.2.2.2.2.2.2.2.1, hk.2.2.2.2.2.2.2.2⟩⟩⟩⟩⟩⟩⟩)⟩, ⟨by (try simp only [hl374002_67]); (with_reducible repeat (first | apply Kd.S_alloc | apply Kd.S_drewN | apply Kd.S_drew)); exact Kd.S_mono HO_381002.out (fun _ hk => ⟨hk.1, ⟨hk.2.1, ⟨hk.2.2.2.1, ⟨hk.2.2.2.2.1, ⟨hk.2.2.2.2.2.1, ⟨hk.2.2.2.2.2.2.2.2.2.2.1, hk.2.2.2.2.2.2.2.2.2.2.2⟩⟩⟩⟩⟩⟩)⟩, ⟨by (try simp only [hl374002_67]); (with_reducible repeat (first | apply Kd.S_alloc | apply Kd.S_drewN | apply Kd.S_drew)); exact Kd.S_mono HO403.out (fun _ hk => ⟨hk.1, ⟨hk.2.1, ⟨hk.2.2.1, hk.2.2.2.2⟩⟩⟩)⟩, ⟨by (try simp only [hl374002_67]); exact BK354.out⟩, ⟨by (try simp only [hl374002_67]); exact BK367.out⟩, ⟨by (try simp only [hl374002_67]); exact BK373.out⟩, ⟨by (try simp only [hl374002_67]); exact BK380.out⟩, ⟨by (try simp only [hl374002_67]); exact BK405.out⟩, ⟨Xi⟩⟩
            ·replace c125 := Bool.eq_false_iff.mpr c125
             subst c125
             (first | rw [if_neg (show ¬ (false = true) by decide)] at H | skip)
             have H' := Aside0.mk H
             clear H
             have hnb136 := NB405_354.out
             have hnc136 := NB354_405.out
             have hnb137 := NB405_367.out
             have hnc137 := NB367_405.out
             have hnb138 := NB405_373.out
             have hnc138 := NB373_405.out
             have hnb139 := NB405_380.out
             have hnc139 := NB380_405.out
             obtain ⟨hcz140_0, hcz140_1, hcz140_2⟩ := Xc3 BK405
             obtain ⟨hfz140_0, hfz140_1, hfz140_2⟩ := Xf3 BK405
             have hnb141 := NB367_354.out
             have hnc141 := NB354_367.out
             have hnb142 := NB367_373.out
             have hnc142 := NB373_367.out
             have hnb143 := NB367_380.out
             have hnc143 := NB380_367.out
             obtain ⟨hcz144_0, hcz144_1, hcz144_2⟩ := Xc3 BK367
             obtain ⟨hfz144_0, hfz144_1, hfz144_2⟩ := Xf3 BK367
             go_wp2_with (first | ((with_reducible refine gate_callee (f := 17) rfl ?_); refine Xgo 86 Try.func17 #[.agg #[.int .i64 t399, .int .i64 t400, .slice Ao122 t401.length co122], .agg #[.int .i64 t361, .int .i64 t362, .slice Ao21 t363.length co21]] ?_; (with_reducible refine (laws_eqDoc.calls kj67 t399 t400 _ _ t401 t361 t362 _ _ t363 false _ ?side1 ?side2 ?side3 ?side4 A124.out).mono ?_); (case side1 => repeat (first | exact (Kd.S_reads' HO403.out).2.2 | (with_reducible first | refine Kd.C_alloc ?_ _ | refine Kd.C_drewN ?_ _ | refine Kd.C_drew ?_))); (case side2 => exact (Kd.S_reads' HO403.out).2.1); (case side3 => repeat (first | exact (Kd.N_reads' HO_368002.out).2.2 | (with_reducible first | refine Kd.C_alloc ?_ _ | refine Kd.C_drewN ?_ _ | refine Kd.C_drew ?_))); (case side4 => exact (Kd.N_reads' HO_368002.out).2.1); rintro e w145 ⟨rfl, hb⟩; refine ⟨_, rfl, ?_⟩; replace HO_368002 := Aside0.mk (Kd.N_below (Xq HO_368002) hb); replace HO_374002 := Aside0.mk (Kd.S_below (Xq HO_374002) hb); replace HO_381002 := Aside0.mk (Kd.S_below (Xq HO_381002) hb); replace HO398 := Aside0.mk (Kd.S_below (Xq HO398) hb); replace HO403 := Aside0.mk (Kd.S_below (Xq HO403) hb); replace BK354 := Xbb BK354 hb; replace BK367 := Xbb BK367 hb; replace BK373 := Xbb BK373 hb; replace BK380 := Xbb BK380 hb; replace BK405 := Xbb BK405 hb; replace HB := Aside0.mk (below_step Xi hb); clear hb))
             go_meet
             case rel => exact ⟨_, (true), Xr, H', ⟨by have := HJ12.out; have := HJ67.out; first | omega | exact Nat.le_refl _⟩, ⟨by (try simp only [hl374002_67]); (with_reducible repeat (first | apply Kd.N_alloc | apply Kd.N_drewN | apply Kd.N_drew)); exact Kd.N_mono HO_368002.out (fun _ hk => ⟨hk.1, ⟨hk.2.1, ⟨hk.2.2.2.1, ⟨hk.2.2.2.2.1, ⟨hk.2.2.2.2.2.1, ⟨hk.2.2.2.2.2.2.1, ⟨hk.2.2.2.2.2.2.2.1, ⟨hk.2.2.2.2.2.2.2.2.2.2.2.2.2, ⟨hk.2.2.2.2.2.2.2.2.1, ⟨hk.2.2.2.2.2.2.2.2.2.1, ⟨hk.2.2.2.2.2.2.2.2.2.2.1, ⟨hk.2.2.2.2.2.2.2.2.2.2.2.1, hk.2.2.2.2.2.2.2.2.2.2.2.2.1⟩⟩⟩⟩⟩⟩⟩⟩⟩⟩⟩⟩)⟩, ⟨by (try simp only [hl374002_67]); (with_reducible repeat (first | apply Kd.S_alloc | apply Kd.S_drewN | apply Kd.S_drew)); exact Kd.S_mono HO_374002.out (fun _ hk => ⟨hk.1, ⟨hk.2.1, ⟨hk.2.2.2.1, ⟨hk.2.2.2.2.1, ⟨hk.2.2.2.2.2.1, ⟨hk.2.2.2.2.2.2.1, ⟨hk.2.2.2.2.2.2.2.1, hk.2.2.2.2.2.2.2.2⟩⟩⟩⟩⟩⟩⟩)⟩, ⟨by (try simp only [hl374002_67]); (with_reducible repeat (first | apply Kd.S_alloc | apply Kd.S_drewN | apply Kd.S_drew)); exact Kd.S_mono HO_381002.out (fun _ hk => ⟨hk.1, ⟨hk.2.1, ⟨hk.2.2.2.1, ⟨hk.2.2.2.2.1, ⟨hk.2.2.2.2.2.1, ⟨hk.2.2.2.2.2.2.2.2.2.2.1, hk.2.2.2.2.2.2.2.2.2.2.2⟩⟩⟩⟩⟩⟩)⟩, ⟨by (try simp only [hl374002_67]); (with_reducible repeat (first | apply Kd.S_alloc | apply Kd.S_drewN | apply Kd.S_drew)); exact Kd.S_mono HO403.out (fun _ hk => ⟨hk.1, ⟨hk.2.1, ⟨hk.2.2.1, hk.2.2.2.2⟩⟩⟩)⟩, ⟨by (try simp only [hl374002_67]); exact BK354.out⟩, ⟨by (try simp only [hl374002_67]); exact BK367.out⟩, ⟨by (try simp only [hl374002_67]); exact BK373.out⟩, ⟨by (try simp only [hl374002_67]); exact BK380.out⟩, ⟨by (try simp only [hl374002_67]); exact BK405.out⟩, ⟨Xi⟩⟩
           case rest =>
            clear HC108
            (try clear c8); (try clear c8b0); (try clear c58); (try clear c66); (try clear c93); (try clear c104); (try clear c104b0); (try clear c105); (try clear c105b0); (try clear c105b1); (try clear hcz100_0); (try clear hcz100_1); (try clear hcz100_2); (try clear hcz102_0); (try clear hcz102_1); (try clear hcz102_2); (try clear hcz112_0); (try clear hcz112_1); (try clear hcz112_2); (try clear hcz121_0); (try clear hcz121_1); (try clear hcz121_2); (try clear hcz14_0); (try clear hcz14_1); (try clear hcz14_2); (try clear hcz20_0); (try clear hcz20_1); (try clear hcz20_2); (try clear hcz23_0); (try clear hcz23_1); (try clear hcz23_2); (try clear hcz28_0); (try clear hcz28_1); (try clear hcz28_2); (try clear hcz31_0); (try clear hcz31_1); (try clear hcz31_2); (try clear hcz37_0); (try clear hcz37_1); (try clear hcz37_2); (try clear hcz6_0); (try clear hcz6_1); (try clear hcz6_2); (try clear hcz72_0); (try clear hcz72_1); (try clear hcz72_2); (try clear hfz100_0); (try clear hfz100_1); (try clear hfz100_2); (try clear hfz102_0); (try clear hfz102_1); (try clear hfz102_2); (try clear hfz112_0); (try clear hfz112_1); (try clear hfz112_2); (try clear hfz121_0); (try clear hfz121_1); (try clear hfz121_2); (try clear hfz14_0); (try clear hfz14_1); (try clear hfz14_2); (try clear hfz20_0); (try clear hfz20_1); (try clear hfz20_2); (try clear hfz23_0); (try clear hfz23_1); (try clear hfz23_2); (try clear hfz28_0); (try clear hfz28_1); (try clear hfz28_2); (try clear hfz31_0); (try clear hfz31_1); (try clear hfz31_2); (try clear hfz37_0); (try clear hfz37_1); (try clear hfz37_2); (try clear hfz6_0); (try clear hfz6_1); (try clear hfz6_2); (try clear hfz72_0); (try clear hfz72_1); (try clear hfz72_2)
            obtain ⟨kq, x92_107, rfl, HA, HJ107, HO_368002, HO_374002, HO_381002, HO_406002, BK354, BK367, BK373, BK380, BK405, HB⟩ := hcut
            have hl381002_107 := (Kd.S_reads' HO_381002.out).1
            rw [hl381002_107] at HO_381002
            (try simp only [hl381002_107])
            (try simp only [hl381002_107] at BK354)
            (try simp only [hl381002_107] at BK367)
            (try simp only [hl381002_107] at BK373)
            (try simp only [hl381002_107] at BK380)
            (try simp only [hl381002_107] at BK405)
            (try simp only [hl381002_107] at HO_368002)
            (try simp only [hl381002_107] at HO_374002)
            (try simp only [hl381002_107] at HO_406002)
            cases kq with
            | zero => cases HA.out
            | succ kj107 =>
             have H := HA.out
             clear HA
             simp only [laws_FnExactCopySub.j2] at H
             by_cases c146 : x92_107 = true
             ·subst c146
              (first | rw [if_pos rfl] at H | skip)
              cases H
             ·replace c146 := Bool.eq_false_iff.mpr c146
              subst c146
              (first | rw [if_neg (show ¬ (false = true) by decide)] at H | skip)
              obtain ⟨t407, A147, H⟩ := Xbi H
              (try dsimp only at H)
              have HC148 := Aside0.mk H
              clear H
              have hnb149 := NB380_354.out
              have hnc149 := NB354_380.out
              have hnb150 := NB380_367.out
              have hnc150 := NB367_380.out
              have hnb151 := NB380_373.out
              have hnc151 := NB373_380.out
              have hnb152 := NB380_405.out
              have hnc152 := NB405_380.out
              obtain ⟨hcz153_0, hcz153_1, hcz153_2⟩ := Xc3 BK380
              obtain ⟨hfz153_0, hfz153_1, hfz153_2⟩ := Xf3 BK380
              go_upto_if 97 with (first | ((with_reducible refine gate_callee (f := 28) rfl ?_); refine Xgo 95 Try.func28 #[.agg #[.int .i64 t374, .int .i64 t375, .slice Ao38 t392.length co38], .int .i64 1] ?_; (with_reducible refine (laws_heldDoc.calls kj107 t374 t375 _ _ t392 1 t407 _ ?side1 ?side2 A147.out).mono ?_); (case side1 => repeat (first | exact (Kd.S_reads' HO_381002.out).2.2 | (with_reducible first | refine Kd.C_alloc ?_ _ | refine Kd.C_drewN ?_ _ | refine Kd.C_drew ?_))); (case side2 => exact (Kd.S_reads' HO_381002.out).2.1); rintro e w154 ⟨rfl, hb⟩; refine ⟨_, rfl, ?_⟩; replace HO_368002 := Aside0.mk (Kd.N_below (Xq HO_368002) hb); replace HO_374002 := Aside0.mk (Kd.S_below (Xq HO_374002) hb); replace HO_381002 := Aside0.mk (Kd.S_below (Xq HO_381002) hb); replace HO_406002 := Aside0.mk (Kd.S_below (Xq HO_406002) hb); replace BK354 := Xbb BK354 hb; replace BK367 := Xbb BK367 hb; replace BK373 := Xbb BK373 hb; replace BK380 := Xbb BK380 hb; replace BK405 := Xbb BK405 hb; replace HB := Aside0.mk (below_step Xi hb); clear hb))
              have H := HC148.out
              clear HC148
              obtain ⟨c155b0, H⟩ | ⟨c155b0, H⟩ := Xit H
              ·(first | rw [c155b0] | (simp only [i64_w, i32_w]; rw [c155b0]) | skip)
               cases H
              ·(first | rw [c155b0] | (simp only [i64_w, i32_w]; rw [c155b0]) | skip)
               obtain ⟨c156, H⟩ | ⟨c156, H⟩ := Xiu H
               ·have c156b0 : (t407 == t391) = true := beq_iff_eq.mpr c156
                have c156b1 : (t407 != t391) = false := bne_eq_false_iff_eq.mpr c156
                clear c156
                go_wp2
                go_ret
                exact ⟨Xe, Xi⟩
               ·have c156b0 : (t407 == t391) = false := beq_eq_false_iff_ne.mpr c156
                have c156b1 : (t407 != t391) = true := bne_iff_ne.mpr c156
                cases H
          ·have c105b0 : (t393 == t391) = false := beq_eq_false_iff_ne.mpr c105
           have c105b1 : (t393 != t391) = true := bne_iff_ne.mpr c105
           cases H
     ·replace c66 := Bool.eq_false_iff.mpr c66
      subst c66
      (first | rw [if_neg (show ¬ (false = true) by decide)] at H | skip)
      cases H

end Go.Proofs.Ytfemohapampkiaa.XA
