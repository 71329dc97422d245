/- Contracts of the program's functions: each Go function that is named below comes to what its Lean function says. Written by xprint.py (a program of this session's, over the kit's print). Conditions: each contract's own premises. -/
import Derived.Test.YtnanfenogmpemaaYModeAt0
import Derived.Test.YtnanfenogmpemaaYModeAt1
import Derived.Test.YtnanfenogmpemaaYModeAt2
import Derived.Test.YtnanfenogmpemaaYModeAt3
import Derived.Test.YtnanfenogmpemaaYModeAt8
import Derived.Test.YtnanfenogmpemaaYModeAt15
namespace Go.Proofs.Ytnanfenogmpemaa.XA
open Go.RowKit Go.Proofs.YtnanfenogmpemaaW.PrintWords Go.Proofs.YtnanfenogmpemaaW.PrintLast Go.Proofs.YtnanfenogmpemaaW.PrintMore XW
attribute [local go_sem] max2_int min2_int max_two min_two max_three min_three max_four min_four   -- for this text's walks alone
set_option linter.unusedVariables false
set_option linter.unusedSimpArgs false

/-! ### laws_FnExactModeAt: function 5 -/
def laws_FnExactModeAt.j0 : Nat → List (S53) → List (S55) → Bool → Int → Int → List (S96) → Int → Int → List (S92) → Option (Bool)
 | 0, _, _, _, _, _, _, _, _, _ => none
 | k + 1, x1, x13, x55, x356000, x356001, x356002, x374000, x374001, x374002 => if x55 = true then (some false) else ((laws_toDoc.f k x356000 x356001 x356002).bind fun bt379 => ((laws_eqDoc.f k x374000 x374001 x374002 bt379.1 bt379.2.1 bt379.2.2).bind fun t384 => (if t384 = true then ((laws_toHoldS.f k x1).bind fun t385 => ((laws_eqHoldS.f k x13 t385).bind fun t388 => (if t388 = true then (some true) else (some false)))) else (some false))))
def laws_FnExactModeAt.f (k : Nat) (a0_0 : Int) (a0_1 : Int) (l0_2 : List (S96)) (l1 : List (S53)) (a2 : Int) (a3 : Int) : Option (Bool) := (laws_szDoc.f k a0_0 a0_1 l0_2 1048576).bind fun t356 => (if t356 < 0 then (some true) else ((laws_szHoldS.f l1 t356).bind fun t357 => (if t357 < 0 then (some true) else ((laws_toDoc.f k a0_0 a0_1 l0_2).bind fun bt358 => ((laws_toHoldS.f k l1).bind fun t363 => ((spec_ModeAt.f k bt358.1 bt358.2.1 bt358.2.2 t363 a2 a3).bind fun bt366 => ((laws_toDoc.f k a0_0 a0_1 l0_2).bind fun bt368 => ((laws_toHoldS.f k l1).bind fun t374 => ((impl_ModeAt.f k bt368.1 bt368.2.1 bt368.2.2 t374 a2 a3).bind fun bt377 => (if bt377.1 = bt366.1 then (laws_FnExactModeAt.j0 k l1 t374 (bt377.2 != bt366.2) a0_0 a0_1 l0_2 bt368.1 bt368.2.1 bt368.2.2) else (laws_FnExactModeAt.j0 k l1 t374 true a0_0 a0_1 l0_2 bt368.1 bt368.2.1 bt368.2.2)))))))))))
set_option maxHeartbeats 8000000 in
set_option maxRecDepth 100000 in
theorem laws_FnExactModeAt.calls (k : Nat) (a0_0 : Int) (a0_1 : Int) (A0_2 : Option Addr) (c0_2 : Nat) (l0_2 : List (S96)) (A1 : Option Addr) (c1 : Nat) (l1 : List (S53)) (a2 : Int) (a3 : Int) (r : Bool) (w : World) (hr0_2 : Kd.C k96 w A0_2 l0_2.length l0_2) (hc0_2 : l0_2.length ≤ c0_2) (hr1 : Kd.C k53 w A1 l1.length l1) (hc1 : l1.length ≤ c1) (hr_ : r = true) (h : laws_FnExactModeAt.f k a0_0 a0_1 l0_2 l1 a2 a3 = some r) :
  Calls Try.prog 5 #[.agg #[.int .i64 a0_0, .int .i64 a0_1, .slice A0_2 l0_2.length c0_2], .slice A1 l1.length c1, .int .i64 a2, .int .i64 a3] w fun e w' => e = .returned (.bool r) ∧ Below w.heap.size w w' := by
 subst hr_
 have hu24 := Try.underlying24
 have hu33 := Try.underlying33
 have HR0_2 := Aside0.mk hr0_2
 have HC0_2 := Aside0.mk hc0_2
 clear hr0_2 hc0_2
 have HR1 := Aside0.mk hr1
 have HC1 := Aside0.mk hc1
 clear hr1 hc1
 have HB := Aside0.mk (Below.refl w.heap.size w)
 have H : ((laws_szDoc.f k a0_0 a0_1 l0_2 1048576).bind fun t356 => (if t356 < 0 then (some true) else ((laws_szHoldS.f l1 t356).bind fun t357 => (if t357 < 0 then (some true) else ((laws_toDoc.f k a0_0 a0_1 l0_2).bind fun bt358 => ((laws_toHoldS.f k l1).bind fun t363 => ((spec_ModeAt.f k bt358.1 bt358.2.1 bt358.2.2 t363 a2 a3).bind fun bt366 => ((laws_toDoc.f k a0_0 a0_1 l0_2).bind fun bt368 => ((laws_toHoldS.f k l1).bind fun t374 => ((impl_ModeAt.f k bt368.1 bt368.2.1 bt368.2.2 t374 a2 a3).bind fun bt377 => (if bt377.1 = bt366.1 then (laws_FnExactModeAt.j0 k l1 t374 (bt377.2 != bt366.2) a0_0 a0_1 l0_2 bt368.1 bt368.2.1 bt368.2.2) else (laws_FnExactModeAt.j0 k l1 t374 true a0_0 a0_1 l0_2 bt368.1 bt368.2.1 bt368.2.2)))))))))))) = some true := h
 clear h
 obtain ⟨t356, A5, H⟩ := Xbi H
 (try dsimp only at H)
 have HC6 := Aside0.mk H
 clear H
 go_enter Try.func5, Try.ntmps5
 go_upto_if 20 with (first | ((with_reducible refine gate_dst (N := 4) rfl ?_); refine Xbox 4 #[.int .i64 a0_0, .int .i64 a0_1, .slice A0_2 l0_2.length c0_2] 24 ?_; intro gb355 hg w7 hbox hb; have BK355 := Aside0.mk (hbox); have GE355 := Xge hg Xi; replace HB := Aside0.mk (below_step Xi hb); clear hb hbox hg; obtain ⟨hcz8_0, hcz8_1, hcz8_2⟩ := Xc3 BK355; obtain ⟨hfz8_0, hfz8_1, hfz8_2⟩ := Xf3 BK355) | ((with_reducible refine gate_callee (f := 10) rfl ?_); refine Xgo 18 Try.func10 #[.agg #[.int .i64 a0_0, .int .i64 a0_1, .slice A0_2 l0_2.length c0_2], .int .i64 1048576] ?_; (with_reducible refine (laws_szDoc.calls k a0_0 a0_1 _ _ l0_2 1048576 t356 _ ?side1 ?side2 A5.out).mono ?_); (case side1 => exact Xc HR0_2); (case side2 => exact HC0_2.out); rintro e w9 ⟨rfl, hb⟩; refine ⟨_, rfl, ?_⟩; replace BK355 := Xbb BK355 hb; replace HB := Aside0.mk (below_step Xi hb); clear hb))
 have H := HC6.out
 clear HC6
 obtain ⟨c10b0, H⟩ | ⟨c10b0, H⟩ := Xit H
 ·(first | rw [c10b0] | (simp only [i64_w, i32_w]; rw [c10b0]) | skip)
  go_wp2
  go_ret
  exact ⟨Xe, Xi⟩
 ·(first | rw [c10b0] | (simp only [i64_w, i32_w]; rw [c10b0]) | skip)
  obtain ⟨t357, A11, H⟩ := Xbi H
  (try dsimp only at H)
  have HC12 := Aside0.mk H
  clear H
  go_upto_if 25 with (first | ((with_reducible refine gate_callee (f := 18) rfl ?_); refine Xgo 23 Try.func18 #[.slice A1 l1.length c1, .int .i64 t356] ?_; (with_reducible refine (laws_szHoldS.calls _ _ l1 t356 t357 _ ?side1 ?side2 A11.out).mono ?_); (case side1 => exact Xc HR1); (case side2 => exact HC1.out); rintro e w' ⟨rfl, ⟨nd, rfl⟩⟩; refine ⟨_, rfl, ?_⟩))
  (try (rw [drewN_self w9]; generalize hq_ : World.drewN w9 _ = w9; have n0_ : Aside0 (w9.heap[gb355]? = some (.cells #[.int .i64 a0_0, .int .i64 a0_1, .slice A0_2 l0_2.length c0_2] 24 (0, 0))) := ⟨by rw [← hq_]; exact BK355.out⟩; have n1_ : Aside0 (Below w.heap.size w w9) := ⟨by rw [← hq_]; exact Xi⟩; clear BK355 HB hq_; have BK355 := n0_; have HB := n1_; clear n0_ n1_))
  have H := HC12.out
  clear HC12
  obtain ⟨c13b0, H⟩ | ⟨c13b0, H⟩ := Xit H
  ·(first | rw [c13b0] | (simp only [i64_w, i32_w]; rw [c13b0]) | skip)
   go_wp2
   go_ret
   exact ⟨Xe, Xi⟩
  ·(first | rw [c13b0] | (simp only [i64_w, i32_w]; rw [c13b0]) | skip)
   replace H := Option.bind_eq_some_iff.mp H
   obtain ⟨⟨t358, t359, t360⟩, A140, H⟩ := H
   (try dsimp only at H)
   have A14 := Aside0.mk A140
   clear A140
   obtain ⟨t363, A15, H⟩ := Xbi H
   (try dsimp only at H)
   replace H := Option.bind_eq_some_iff.mp H
   obtain ⟨⟨t366, t367⟩, A160, H⟩ := H
   (try dsimp only at H)
   have A16 := Aside0.mk A160
   clear A160
   replace H := Option.bind_eq_some_iff.mp H
   obtain ⟨⟨t368, t369, t370⟩, A170, H⟩ := H
   (try dsimp only at H)
   have A17 := Aside0.mk A170
   clear A170
   obtain ⟨t374, A18, H⟩ := Xbi H
   (try dsimp only at H)
   replace H := Option.bind_eq_some_iff.mp H
   obtain ⟨⟨t377, t378⟩, A190, H⟩ := H
   (try dsimp only at H)
   have A19 := Aside0.mk A190
   clear A190
   have HC20 := Aside0.mk H
   clear H
   obtain ⟨hcz21_0, hcz21_1, hcz21_2⟩ := Xc3 BK355
   obtain ⟨hfz21_0, hfz21_1, hfz21_2⟩ := Xf3 BK355
   go_upto_region 12 with (first | ((with_reducible refine gate_callee (f := 13) rfl ?_); refine Xgo 28 Try.func13 #[.agg #[.int .i64 a0_0, .int .i64 a0_1, .slice A0_2 l0_2.length c0_2]] ?_; (with_reducible refine (laws_toDoc.calls k a0_0 a0_1 _ _ l0_2 t358 t359 t360 _ ?side1 ?side2 A14.out).mono ?_); (case side1 => exact Xc HR0_2); (case side2 => exact HC0_2.out); rintro e w22 ⟨v361, rfl, ho0, hb⟩; refine ⟨_, rfl, ?_⟩; have HO362 := Aside0.mk (Kd.S_lower ho0 (below_size Xi)); replace BK355 := Xbb BK355 hb; replace HB := Aside0.mk (below_step Xi hb); clear hb; (try clear ho0)) | ((with_reducible refine gate_callee (f := 20) rfl ?_); refine Xgo 30 Try.func20 #[.slice A1 l1.length c1] ?_; (with_reducible refine (laws_toHoldS.calls k _ _ l1 t363 _ ?side1 ?side2 A15.out).mono ?_); (case side1 => exact Xc HR1); (case side2 => exact HC1.out); rintro e w23 ⟨v364, rfl, ho0, hb⟩; refine ⟨_, rfl, ?_⟩; replace HO362 := Aside0.mk (Kd.S_below (Xq HO362) hb); have HO365 := Aside0.mk (Kd.R_lower ho0 (below_size Xi)); replace BK355 := Xbb BK355 hb; replace HB := Aside0.mk (below_step Xi hb); clear hb; (try clear ho0); obtain ⟨Ao24, co24, eo24⟩ := Kd.S_slice HO362.out; subst eo24; obtain ⟨Ao25, co25, eo25⟩ := Kd.R_slice HO365.out; subst eo25) | ((with_reducible refine gate_callee (f := 23) rfl ?_); refine Xgo 33 Try.func23 #[.agg #[.int .i64 t358, .int .i64 t359, .slice Ao24 t360.length co24], .slice Ao25 t363.length co25, .int .i64 a2, .int .i64 a3] ?_; (with_reducible refine (spec_ModeAt.calls k t358 t359 _ _ t360 _ _ t363 a2 a3 t366 t367 _ ?side1 ?side2 ?side3 ?side4 A16.out).mono ?_); (case side1 => repeat (first | exact (Kd.S_reads' HO362.out).2.2 | (with_reducible first | refine Kd.C_alloc ?_ _ | refine Kd.C_drewN ?_ _ | refine Kd.C_drew ?_))); (case side2 => exact (Kd.S_reads' HO362.out).2.1); (case side3 => repeat (first | exact (Kd.R_reads' HO365.out).2.2 | (with_reducible first | refine Kd.C_alloc ?_ _ | refine Kd.C_drewN ?_ _ | refine Kd.C_drew ?_))); (case side4 => exact (Kd.R_reads' HO365.out).2.1); rintro e w26 ⟨rfl, hb⟩; refine ⟨_, rfl, ?_⟩; replace HO362 := Aside0.mk (Kd.S_below (Xq HO362) hb); replace HO365 := Aside0.mk (Kd.R_below (Xq HO365) hb); replace BK355 := Xbb BK355 hb; replace HB := Aside0.mk (below_step Xi hb); clear hb; obtain ⟨hcz27_0, hcz27_1, hcz27_2⟩ := Xc3 BK355; obtain ⟨hfz27_0, hfz27_1, hfz27_2⟩ := Xf3 BK355) | ((with_reducible refine gate_callee (f := 13) rfl ?_); refine Xgo 37 Try.func13 #[.agg #[.int .i64 a0_0, .int .i64 a0_1, .slice A0_2 l0_2.length c0_2]] ?_; (with_reducible refine (laws_toDoc.calls k a0_0 a0_1 _ _ l0_2 t368 t369 t370 _ ?side1 ?side2 A17.out).mono ?_); (case side1 => exact Xc HR0_2); (case side2 => exact HC0_2.out); rintro e w28 ⟨v371, rfl, ho0, hb⟩; refine ⟨_, rfl, ?_⟩; replace HO365 := Aside0.mk (Kd.R_below (Xq HO365) hb); have HO372 := Aside0.mk (Kd.S_lower (Kd.S_new' ho0 (Kd.S_lt (Xq HO362))) (below_size Xi)); replace HO362 := Aside0.mk (Kd.S_elder' (Xq HO362) (Kd.S_base ho0) hb); replace BK355 := Xbb BK355 hb; replace HB := Aside0.mk (below_step Xi hb); clear hb; (try clear ho0)) | ((with_reducible refine gate_dst (N := 12) rfl ?_); refine Xbox 12 #[.int .i64 0, .int .i64 0, .slice none 0 0] 33 ?_; intro gb373 hg w29 hbox hb; replace HO362 := Aside0.mk (Kd.S_below (Xq HO362) hb); replace HO365 := Aside0.mk (Kd.R_below (Xq HO365) hb); replace HO372 := Aside0.mk (Kd.S_below (Xq HO372) hb); have BK373 := Aside0.mk (hbox); have GE373 := Xge hg Xi; replace HB := Aside0.mk (below_step Xi hb); have NB355_373 := Xnb hg BK355; have NB373_355 := Xns NB355_373; replace BK355 := Xbb BK355 hb; clear hb hbox hg; have hnb30 := NB373_355.out; have hnc30 := NB355_373.out; obtain ⟨hcz31_0, hcz31_1, hcz31_2⟩ := Xc3 BK373; obtain ⟨hfz31_0, hfz31_1, hfz31_2⟩ := Xf3 BK373; obtain ⟨Ao32, co32, eo32⟩ := Kd.S_slice HO372.out; subst eo32) | ((with_reducible refine gate_store (t := 33) (p := 12) rfl ?_); refine store_event (t := 33) (p := 12) (v := ?vo_w33) (w1 := (((w29.setCell ⟨gb373, 0, none⟩ (.int .i64 t368)).setCell ⟨gb373, 1, none⟩ (.int .i64 t369)).setCell ⟨gb373, 2, none⟩ (.slice Ao32 t370.length co32))) ?hg ?ho ?hn ?hr ?_; (case ho => rfl); (case hg => rfl); (case hn => rfl); (case hr => first | (go_simp; done) | (go_simp; rfl)); intro w33 hw; have n0_ : Aside0 (Kd.S k92 92 w33 w.heap.size (fun k_ => some k_ ≠ (.slice Ao32 t370.length co32 : Value).ownBlock) (.slice Ao24 t360.length co24) t360) := ⟨(by rw [hw]; exact (by (with_reducible repeat (first | apply Kd.S_alloc | apply Kd.S_drewN | apply Kd.S_drew)); exact Kd.S_mono (Kd.S_far (p := ⟨gb373, 2, none⟩) (Kd.S_far (p := ⟨gb373, 1, none⟩) (Kd.S_far (p := ⟨gb373, 0, none⟩) (Kd.S_types HO362.out BK373.out (by decide)) (fun _ hk => hk.2) (.int .i64 t368)) (fun _ hk => hk.2) (.int .i64 t369)) (fun _ hk => hk.2) (.slice Ao32 t370.length co32)) (fun _ hk => hk.1.2)))⟩; have n1_ : Aside0 (Kd.R k55 55 w33 w.heap.size (fun _ => True) (.slice Ao25 t363.length co25) t363) := ⟨(by rw [hw]; exact (by (with_reducible repeat (first | apply Kd.R_alloc | apply Kd.R_drewN | apply Kd.R_drew)); exact Kd.R_mono (Kd.R_far (p := ⟨gb373, 2, none⟩) (Kd.R_far (p := ⟨gb373, 1, none⟩) (Kd.R_far (p := ⟨gb373, 0, none⟩) (Kd.R_types HO365.out BK373.out (by decide)) (fun _ hk => hk.2) (.int .i64 t368)) (fun _ hk => hk.2) (.int .i64 t369)) (fun _ hk => hk.2) (.slice Ao32 t370.length co32)) (fun _ hk => trivial)))⟩; have n2_ : Aside0 (Kd.S k92 92 w33 w.heap.size (fun k_ => some k_ ≠ (.slice Ao24 t360.length co24 : Value).ownBlock) (.slice Ao32 t370.length co32) t370) := ⟨(by rw [hw]; exact (by (with_reducible repeat (first | apply Kd.S_alloc | apply Kd.S_drewN | apply Kd.S_drew)); exact Kd.S_mono (Kd.S_far (p := ⟨gb373, 2, none⟩) (Kd.S_far (p := ⟨gb373, 1, none⟩) (Kd.S_far (p := ⟨gb373, 0, none⟩) (Kd.S_types HO372.out BK373.out (by decide)) (fun _ hk => hk.2) (.int .i64 t368)) (fun _ hk => hk.2) (.int .i64 t369)) (fun _ hk => hk.2) (.slice Ao32 t370.length co32)) (fun _ hk => hk.1.2)))⟩; have n3_ : Aside0 (w33.heap[gb355]? = some (.cells #[.int .i64 a0_0, .int .i64 a0_1, .slice A0_2 l0_2.length c0_2] 24 (0, 0))) := ⟨(by rw [hw]; exact (by (with_reducible repeat (first | refine blk_drewN ?_ _ | refine blk_drew ?_ | refine blk_alloc ?_ _)); refine blk_far ?_ NB355_373.out _; (with_reducible repeat (first | refine blk_drewN ?_ _ | refine blk_drew ?_ | refine blk_alloc ?_ _)); refine blk_far ?_ NB355_373.out _; (with_reducible repeat (first | refine blk_drewN ?_ _ | refine blk_drew ?_ | refine blk_alloc ?_ _)); refine blk_far ?_ NB355_373.out _; (with_reducible repeat (first | refine blk_drewN ?_ _ | refine blk_drew ?_ | refine blk_alloc ?_ _)); exact BK355.out))⟩; have n4_ : Aside0 (w33.heap[gb373]? = some (.cells #[.int .i64 t368, .int .i64 t369, .slice Ao32 t370.length co32] 33 (0, 0))) := ⟨(by rw [hw]; exact (by (with_reducible repeat (first | refine blk_drewN ?_ _ | refine blk_drew ?_ | refine blk_alloc ?_ _)); refine blk_put (cs := #[.int .i64 t368, .int .i64 t369, .slice none 0 0]) ?_ 2 _ rfl; (with_reducible repeat (first | refine blk_drewN ?_ _ | refine blk_drew ?_ | refine blk_alloc ?_ _)); refine blk_put (cs := #[.int .i64 t368, .int .i64 0, .slice none 0 0]) ?_ 1 _ rfl; (with_reducible repeat (first | refine blk_drewN ?_ _ | refine blk_drew ?_ | refine blk_alloc ?_ _)); refine blk_put (cs := #[.int .i64 0, .int .i64 0, .slice none 0 0]) ?_ 0 _ rfl; (with_reducible repeat (first | refine blk_drewN ?_ _ | refine blk_drew ?_ | refine blk_alloc ?_ _)); exact BK373.out))⟩; have n5_ : Aside0 (Below w.heap.size w w33) := ⟨(by rw [hw]; exact Xi)⟩; clear hw; clear HO362; clear HO365; clear HO372; clear BK355; clear BK373; clear HB; have HO362 := n0_; have HO365 := n1_; have HO372 := n2_; have BK355 := n3_; have BK373 := n4_; have HB := n5_; clear n0_ n1_ n2_ n3_ n4_ n5_) | ((with_reducible refine gate_callee (f := 20) rfl ?_); refine Xgo 39 Try.func20 #[.slice A1 l1.length c1] ?_; (with_reducible refine (laws_toHoldS.calls k _ _ l1 t374 _ ?side1 ?side2 A18.out).mono ?_); (case side1 => exact Xc HR1); (case side2 => exact HC1.out); rintro e w34 ⟨v375, rfl, ho0, hb⟩; refine ⟨_, rfl, ?_⟩; replace HO362 := Aside0.mk (Kd.S_below (Xq HO362) hb); replace HO372 := Aside0.mk (Kd.S_below (Xq HO372) hb); have HO376 := Aside0.mk (Kd.R_lower (Kd.R_new' ho0 (Kd.R_lt (Xq HO365))) (below_size Xi)); replace HO365 := Aside0.mk (Kd.R_elder' (Xq HO365) (Kd.R_base ho0) hb); replace BK355 := Xbb BK355 hb; replace BK373 := Xbb BK373 hb; replace HB := Aside0.mk (below_step Xi hb); clear hb; (try clear ho0); obtain ⟨hcz35_0, hcz35_1, hcz35_2⟩ := Xc3 BK373; obtain ⟨hfz35_0, hfz35_1, hfz35_2⟩ := Xf3 BK373; obtain ⟨Ao36, co36, eo36⟩ := Kd.R_slice HO376.out; subst eo36) | ((with_reducible refine gate_callee (f := 24) rfl ?_); refine Xgo 45 Try.func24 #[.agg #[.int .i64 t368, .int .i64 t369, .slice Ao32 t370.length co32], .slice Ao36 t374.length co36, .int .i64 a2, .int .i64 a3] ?_; (with_reducible refine (impl_ModeAt.calls k t368 t369 _ _ t370 _ _ t374 a2 a3 t377 t378 _ ?side1 ?side2 ?side3 ?side4 A19.out).mono ?_); (case side1 => repeat (first | exact (Kd.S_reads' HO372.out).2.2 | (with_reducible first | refine Kd.C_alloc ?_ _ | refine Kd.C_drewN ?_ _ | refine Kd.C_drew ?_))); (case side2 => exact (Kd.S_reads' HO372.out).2.1); (case side3 => repeat (first | exact (Kd.R_reads' HO376.out).2.2 | (with_reducible first | refine Kd.C_alloc ?_ _ | refine Kd.C_drewN ?_ _ | refine Kd.C_drew ?_))); (case side4 => exact (Kd.R_reads' HO376.out).2.1); rintro e w37 ⟨rfl, hb⟩; refine ⟨_, rfl, ?_⟩; replace HO362 := Aside0.mk (Kd.S_below (Xq HO362) hb); replace HO365 := Aside0.mk (Kd.R_below (Xq HO365) hb); replace HO372 := Aside0.mk (Kd.S_below (Xq HO372) hb); replace HO376 := Aside0.mk (Kd.R_below (Xq HO376) hb); replace BK355 := Xbb BK355 hb; replace BK373 := Xbb BK373 hb; replace HB := Aside0.mk (below_step Xi hb); clear hb))
   (try simp only [XW.q0, XW.q1, XW.q2])
   go_cut [55] (fun v55 wc => ∃ (kq : Nat) (x55_19 : Bool), v55 = .bool x55_19 ∧ Aside0 (laws_FnExactModeAt.j0 kq l1 t374 x55_19 a0_0 a0_1 l0_2 t368 t369 t370 = some true) ∧ Aside0 (kq ≤ k) ∧ Aside0 (Kd.R k55 55 wc w.heap.size (fun _ => True) (.slice Ao36 t374.length co36) t374) ∧ Aside0 (Kd.S k92 92 wc w.heap.size (fun _ => True) (.slice Ao32 t370.length co32) t370) ∧ Aside0 (wc.heap[gb355]? = some (.cells #[.int .i64 a0_0, .int .i64 a0_1, (.slice A0_2 l0_2.length c0_2)] 24 (0, 0))) ∧ Aside0 (wc.heap[gb373]? = some (.cells #[.int .i64 t368, .int .i64 t369, (.slice Ao32 t370.length co32)] 33 (0, 0))) ∧ Aside0 (Below w.heap.size w wc))
   case first =>
    have H := HC20.out
    clear HC20
    obtain ⟨c38, H⟩ | ⟨c38, H⟩ := Xiu H
    ·have c38b0 : (t377 == t366) = true := beq_iff_eq.mpr c38
     have c38b1 : (t377 != t366) = false := bne_eq_false_iff_eq.mpr c38
     clear c38
     (first | rw [c38b0] | (simp only [i64_w, i32_w]; rw [c38b0]) | skip)
     have H' := Aside0.mk H
     clear H
     go_wp2
     go_meet
     case rel => exact ⟨_, ((t378 != t367)), Xr, H', Xko, ⟨by (with_reducible repeat (first | apply Kd.R_alloc | apply Kd.R_drewN | apply Kd.R_drew)); exact Kd.R_mono HO376.out (fun _ hk => trivial)⟩, ⟨by (with_reducible repeat (first | apply Kd.S_alloc | apply Kd.S_drewN | apply Kd.S_drew)); exact Kd.S_mono HO372.out (fun _ hk => trivial)⟩, BK355, BK373, ⟨Xi⟩⟩
    ·have c38b0 : (t377 == t366) = false := beq_eq_false_iff_ne.mpr c38
     have c38b1 : (t377 != t366) = true := bne_iff_ne.mpr c38
     (first | rw [c38b0] | (simp only [i64_w, i32_w]; rw [c38b0]) | skip)
     have H' := Aside0.mk H
     clear H
     go_wp2
     go_meet
     case rel => exact ⟨_, (true), Xr, H', Xko, ⟨by (with_reducible repeat (first | apply Kd.R_alloc | apply Kd.R_drewN | apply Kd.R_drew)); exact Kd.R_mono HO376.out (fun _ hk => trivial)⟩, ⟨by (with_reducible repeat (first | apply Kd.S_alloc | apply Kd.S_drewN | apply Kd.S_drew)); exact Kd.S_mono HO372.out (fun _ hk => trivial)⟩, BK355, BK373, ⟨Xi⟩⟩
   case rest =>
    clear HC20
    (try clear c1); (try clear c10); (try clear c10b0); (try clear c13); (try clear c13b0); (try clear hcz21_0); (try clear hcz21_1); (try clear hcz21_2); (try clear hcz27_0); (try clear hcz27_1); (try clear hcz27_2); (try clear hcz31_0); (try clear hcz31_1); (try clear hcz31_2); (try clear hcz35_0); (try clear hcz35_1); (try clear hcz35_2); (try clear hcz8_0); (try clear hcz8_1); (try clear hcz8_2); (try clear hfz21_0); (try clear hfz21_1); (try clear hfz21_2); (try clear hfz27_0); (try clear hfz27_1); (try clear hfz27_2); (try clear hfz31_0); (try clear hfz31_1); (try clear hfz31_2); (try clear hfz35_0); (try clear hfz35_1); (try clear hfz35_2); (try clear hfz8_0); (try clear hfz8_1); (try clear hfz8_2)
    obtain ⟨kq, x55_19, rfl, HA, HJ19, HO_13, HO_374002, BK355, BK373, HB⟩ := hcut
    cases kq with
    | zero => cases HA.out
    | succ kj19 =>
     have H := HA.out
     clear HA
     simp only [laws_FnExactModeAt.j0] at H
     by_cases c39 : x55_19 = true
     ·subst c39
      (first | rw [if_pos rfl] at H | skip)
      cases H
     ·replace c39 := Bool.eq_false_iff.mpr c39
      subst c39
      (first | rw [if_neg (show ¬ (false = true) by decide)] at H | skip)
      replace H := Option.bind_eq_some_iff.mp H
      obtain ⟨⟨t379, t380, t381⟩, A400, H⟩ := H
      (try dsimp only at H)
      have A40 := Aside0.mk A400
      clear A400
      obtain ⟨t384, A41, H⟩ := Xbi H
      (try dsimp only at H)
      have HC42 := Aside0.mk H
      clear H
      try go_wp2_with (fail)
      replace HO_13 := Aside0.mk (Kd.R_drew HO_13.out)
      replace HO_374002 := Aside0.mk (Kd.S_drew HO_374002.out)
      replace BK355 := Aside0.mk (blk_drew BK355.out)
      replace BK373 := Aside0.mk (blk_drew BK373.out)
      replace HB := Aside0.mk (below_drew1 HB.out)
      refine start_ (n := 5) (S := fun w' => w'.cell? ⟨gb373, 0, none⟩ = some (.int .i64 t368) ∧ w'.cell? ⟨gb373, 1, none⟩ = some (.int .i64 t369) ∧ w'.cell? ⟨gb373, 2, none⟩ = some (.slice Ao32 t370.length co32) ∧ w'.cell? ⟨gb355, 0, none⟩ = some (.int .i64 a0_0) ∧ w'.cell? ⟨gb355, 1, none⟩ = some (.int .i64 a0_1) ∧ w'.cell? ⟨gb355, 2, none⟩ = some (.slice A0_2 l0_2.length c0_2)) (ds := []) #[false, false, false, false, false] (by kernel_rfl) rfl rfl ⟨(blk_cell BK373.out 0).trans rfl, (blk_cell BK373.out 1).trans rfl, (blk_cell BK373.out 2).trans rfl, (blk_cell BK355.out 0).trans rfl, (blk_cell BK355.out 1).trans rfl, (blk_cell BK355.out 2).trans rfl⟩ (fun hHeld => ?_)
      generalize wc.drew = w43 at HO_13 HO_374002 BK355 BK373 HB hHeld ⊢
      refine take_ (i := 0) (N := some 56) (v := ?_) (a' := ?_) #[true, false, false, false, false] rfl rfl (by kernel_rfl) (fun _ _ _ h => h) (Or.inl ⟨by rfl, ?_⟩) hHeld ?_ ?_
      rotate_left
      ·rintro w' ⟨s0, s1, s2, s3, s4, s5⟩
       go_simp
       with_reducible rfl
      rotate_left
      ·simp only [XW.q0, XW.q1, XW.q2, i64_w, i32_w]
       rfl
      refine take_ (i := 1) (N := some 57) (v := ?_) (a' := ?_) #[true, true, false, false, false] rfl rfl (by kernel_rfl) (fun _ _ _ h => h) (Or.inl ⟨by rfl, ?_⟩) hHeld ?_ ?_
      rotate_left
      ·rintro w' ⟨s0, s1, s2, s3, s4, s5⟩
       go_simp
       with_reducible rfl
      rotate_left
      ·simp only [XW.q0, XW.q1, XW.q2, i64_w, i32_w]
       rfl
      refine one_ (i := 2) (N := some 58) #[true, true, true, false, false] rfl rfl (by kernel_rfl) (by decide) (fun K hK => ?_)
      refine goes_ Try.func13 (by kernel_rfl) rfl #[.agg #[.int .i64 a0_0, .int .i64 a0_1, .slice A0_2 l0_2.length c0_2]] (by rfl) rfl rfl (by (try simp only [List.map_toArray, List.map_cons, List.map_nil]); first | done | rfl | (simp only [List.length_drop, List.length_take]; rfl)) ?_
      with_reducible refine (laws_toDoc.calls kj19 a0_0 a0_1 _ _ l0_2 t379 t380 t381 _ ?side1 ?side2 A40.out).mono ?_
      (case side1 => exact Xc HR0_2)
      (case side2 => exact HC0_2.out)
      rintro e w44 ⟨v382, rfl, ho0, hb⟩
      refine ⟨_, rfl, ?_⟩
      replace HO_13 := Aside0.mk (Kd.R_below (Xq HO_13) hb)
      have HO383 := Aside0.mk (Kd.S_lower (Kd.S_new' ho0 (Kd.S_lt (Xq HO_374002))) (below_size Xi))
      replace HO_374002 := Aside0.mk (Kd.S_elder' (Xq HO_374002) (Kd.S_base ho0) hb)
      replace BK355 := Xbb BK355 hb
      replace BK373 := Xbb BK373 hb
      replace HB := Aside0.mk (below_step Xi hb)
      (try clear hb)
      (try clear hb2)
      (try clear hk)
      (try clear hi)
      (try clear ho0)
      obtain ⟨Ao45, co45, eo45⟩ := Kd.S_slice HO383.out
      (first | subst eo45 | (injection eo45 with f1_ f2_ f3_; have f4_ := f1_.symm; have f5_ := f3_.symm; clear f1_ f2_ f3_; subst f4_; subst f5_))
      refine hK.out _ _ ⟨(blk_cell BK373.out 0).trans rfl, (blk_cell BK373.out 1).trans rfl, (blk_cell BK373.out 2).trans rfl, (blk_cell BK355.out 0).trans rfl, (blk_cell BK355.out 1).trans rfl, (blk_cell BK355.out 2).trans rfl⟩ (fun hHeld => ?_)
      clear hK K
      refine Xno ?_
      refine one_ (i := 3) (N := some 59) #[true, true, true, true, false] rfl rfl (by kernel_rfl) (by decide) (fun K hK => ?_)
      refine goes_ Try.func16 (by kernel_rfl) rfl #[.agg #[.int .i64 t368, .int .i64 t369, .slice Ao32 t370.length co32], .agg #[.int .i64 t379, .int .i64 t380, .slice Ao45 t381.length co45]] (by rfl) rfl rfl (by (try simp only [List.map_toArray, List.map_cons, List.map_nil]); first | done | rfl | (simp only [List.length_drop, List.length_take]; rfl)) ?_
      with_reducible refine (laws_eqDoc.calls kj19 t368 t369 _ _ t370 t379 t380 _ _ t381 t384 _ ?side1 ?side2 ?side3 ?side4 A41.out).mono ?_
      (case side1 => repeat (first | exact (Kd.S_reads' HO_374002.out).2.2 | (with_reducible first | refine Kd.C_alloc ?_ _ | refine Kd.C_drewN ?_ _ | refine Kd.C_drew ?_)))
      (case side2 => exact (Kd.S_reads' HO_374002.out).2.1)
      (case side3 => repeat (first | exact (Kd.S_reads' HO383.out).2.2 | (with_reducible first | refine Kd.C_alloc ?_ _ | refine Kd.C_drewN ?_ _ | refine Kd.C_drew ?_)))
      (case side4 => exact (Kd.S_reads' HO383.out).2.1)
      rintro e w46 ⟨rfl, hb⟩
      refine ⟨_, rfl, ?_⟩
      replace HO_13 := Aside0.mk (Kd.R_below (Xq HO_13) hb)
      replace HO_374002 := Aside0.mk (Kd.S_below (Xq HO_374002) hb)
      replace HO383 := Aside0.mk (Kd.S_below (Xq HO383) hb)
      replace BK355 := Xbb BK355 hb
      replace BK373 := Xbb BK373 hb
      replace HB := Aside0.mk (below_step Xi hb)
      (try clear hb)
      (try clear hb2)
      (try clear hk)
      (try clear hi)
      refine hK.out _ _ ⟨(blk_cell BK373.out 0).trans rfl, (blk_cell BK373.out 1).trans rfl, (blk_cell BK373.out 2).trans rfl, (blk_cell BK355.out 0).trans rfl, (blk_cell BK355.out 1).trans rfl, (blk_cell BK355.out 2).trans rfl⟩ (fun hHeld => ?_)
      clear hK K
      refine Xno ?_
      refine pure_ (i := 4) (N := some 60) (v := ?_) (a' := ?_) #[true, true, true, true, true] rfl rfl (by kernel_rfl) (fun _ _ _ h => h) (Or.inl ⟨by rfl, ?_⟩) ?_ ?_
      rotate_left
      ·intro w'
       go_simp
       with_reducible rfl
      rotate_left
      ·simp only [XW.q0, XW.q1, XW.q2, i64_w, i32_w]
       rfl
      refine done_ (by kernel_rfl) ?_
      go_upto_if 60 with (fail)
      have H := HC42.out
      clear HC42
      by_cases c47 : t384 = true
      ·subst c47
       (first | rw [if_pos rfl] at H | skip)
       obtain ⟨t385, A48, H⟩ := Xbi H
       (try dsimp only at H)
       obtain ⟨t388, A49, H⟩ := Xbi H
       (try dsimp only at H)
       have HC50 := Aside0.mk H
       clear H
       go_upto_if 65 with (first | ((with_reducible refine gate_callee (f := 20) rfl ?_); refine Xgo 63 Try.func20 #[.slice A1 l1.length c1] ?_; (with_reducible refine (laws_toHoldS.calls kj19 _ _ l1 t385 _ ?side1 ?side2 A48.out).mono ?_); (case side1 => exact Xc HR1); (case side2 => exact HC1.out); rintro e w51 ⟨v386, rfl, ho0, hb⟩; refine ⟨_, rfl, ?_⟩; replace HO_374002 := Aside0.mk (Kd.S_below (Xq HO_374002) hb); replace HO383 := Aside0.mk (Kd.S_below (Xq HO383) hb); have HO387 := Aside0.mk (Kd.R_lower (Kd.R_new' ho0 (Kd.R_lt (Xq HO_13))) (below_size Xi)); replace HO_13 := Aside0.mk (Kd.R_elder' (Xq HO_13) (Kd.R_base ho0) hb); replace BK355 := Xbb BK355 hb; replace BK373 := Xbb BK373 hb; replace HB := Aside0.mk (below_step Xi hb); clear hb; (try clear ho0); obtain ⟨Ao52, co52, eo52⟩ := Kd.R_slice HO387.out; subst eo52) | ((with_reducible refine gate_callee (f := 22) rfl ?_); refine Xgo 64 Try.func22 #[.slice Ao36 t374.length co36, .slice Ao52 t385.length co52] ?_; (with_reducible refine (laws_eqHoldS.calls kj19 _ _ t374 _ _ t385 t388 _ ?side1 ?side2 ?side3 ?side4 A49.out).mono ?_); (case side1 => repeat (first | exact (Kd.R_reads' HO_13.out).2.2 | (with_reducible first | refine Kd.C_alloc ?_ _ | refine Kd.C_drewN ?_ _ | refine Kd.C_drew ?_))); (case side2 => exact (Kd.R_reads' HO_13.out).2.1); (case side3 => repeat (first | exact (Kd.R_reads' HO387.out).2.2 | (with_reducible first | refine Kd.C_alloc ?_ _ | refine Kd.C_drewN ?_ _ | refine Kd.C_drew ?_))); (case side4 => exact (Kd.R_reads' HO387.out).2.1); rintro e w53 ⟨rfl, hb⟩; refine ⟨_, rfl, ?_⟩; replace HO_13 := Aside0.mk (Kd.R_below (Xq HO_13) hb); replace HO_374002 := Aside0.mk (Kd.S_below (Xq HO_374002) hb); replace HO383 := Aside0.mk (Kd.S_below (Xq HO383) hb); replace HO387 := Aside0.mk (Kd.R_below (Xq HO387) hb); replace BK355 := Xbb BK355 hb; replace BK373 := Xbb BK373 hb; replace HB := Aside0.mk (below_step Xi hb); clear hb))
       have H := HC50.out
       clear HC50
       by_cases c54 : t388 = true
       ·subst c54
        (first | rw [if_pos rfl] at H | skip)
        go_wp2
        go_ret
        exact ⟨Xe, Xi⟩
       ·replace c54 := Bool.eq_false_iff.mpr c54
        subst c54
        (first | rw [if_neg (show ¬ (false = true) by decide)] at H | skip)
        cases H
      ·replace c47 := Bool.eq_false_iff.mpr c47
       subst c47
       (first | rw [if_neg (show ¬ (false = true) by decide)] at H | skip)
       cases H

end Go.Proofs.Ytnanfenogmpemaa.XA
