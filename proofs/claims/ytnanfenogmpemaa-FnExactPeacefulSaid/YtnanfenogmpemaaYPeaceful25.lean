/- Contracts of the program's functions: each Go function that is named below comes to what its Lean function says. Written by xprint.py (a program of this session's, over the kit's print). Conditions: each contract's own premises. -/
import Derived.Test.YtnanfenogmpemaaYPeaceful0
import Derived.Test.YtnanfenogmpemaaYPeaceful1
import Derived.Test.YtnanfenogmpemaaYPeaceful2
import Derived.Test.YtnanfenogmpemaaYPeaceful3
import Derived.Test.YtnanfenogmpemaaYPeaceful9
import Derived.Test.YtnanfenogmpemaaYPeaceful24
namespace Go.Proofs.Ytnanfenogmpemaa.XA
open Go.RowKit Go.Proofs.YtnanfenogmpemaaW.PrintWords Go.Proofs.YtnanfenogmpemaaW.PrintLast Go.Proofs.YtnanfenogmpemaaW.PrintMore XW
attribute [local go_sem] max2_int min2_int max_two min_two max_three min_three max_four min_four   -- for this text's walks alone
set_option linter.unusedVariables false
set_option linter.unusedSimpArgs false

/-! ### laws_FnExactPeaceful: function 8 -/
def laws_FnExactPeaceful.j0 : Nat → List (S53) → List (S55) → Bool → Int → Int → List (S96) → Int → Int → List (S92) → Option (Bool)
 | 0, _, _, _, _, _, _, _, _, _ => none
 | k + 1, x1, x9, x47, x517000, x517001, x517002, x535000, x535001, x535002 => if x47 = true then (some false) else ((laws_toDoc.f k x517000 x517001 x517002).bind fun bt540 => ((laws_eqDoc.f k x535000 x535001 x535002 bt540.1 bt540.2.1 bt540.2.2).bind fun t545 => (if t545 = true then ((laws_toHoldS.f k x1).bind fun t546 => ((laws_eqHoldS.f k x9 t546).bind fun t549 => (if t549 = true then (some true) else (some false)))) else (some false))))
def laws_FnExactPeaceful.f (k : Nat) (a0_0 : Int) (a0_1 : Int) (l0_2 : List (S96)) (l1 : List (S53)) : Option (Bool) := (laws_szDoc.f k a0_0 a0_1 l0_2 1048576).bind fun t517 => (if t517 < 0 then (some true) else ((laws_szHoldS.f l1 t517).bind fun t518 => (if t518 < 0 then (some true) else ((laws_toDoc.f k a0_0 a0_1 l0_2).bind fun bt519 => ((laws_toHoldS.f k l1).bind fun t524 => ((spec_Peaceful.f k bt519.1 bt519.2.1 bt519.2.2 t524).bind fun bt527 => ((laws_toDoc.f k a0_0 a0_1 l0_2).bind fun bt529 => ((laws_toHoldS.f k l1).bind fun t535 => ((impl_Peaceful.f k bt529.1 bt529.2.1 bt529.2.2 t535).bind fun bt538 => (if (bt538.1 != bt527.1) = true then (laws_FnExactPeaceful.j0 k l1 t535 true a0_0 a0_1 l0_2 bt529.1 bt529.2.1 bt529.2.2) else (laws_FnExactPeaceful.j0 k l1 t535 (bt538.2 != bt527.2) a0_0 a0_1 l0_2 bt529.1 bt529.2.1 bt529.2.2)))))))))))
set_option maxHeartbeats 8000000 in
set_option maxRecDepth 100000 in
theorem laws_FnExactPeaceful.calls (k : Nat) (a0_0 : Int) (a0_1 : Int) (A0_2 : Option Addr) (c0_2 : Nat) (l0_2 : List (S96)) (A1 : Option Addr) (c1 : Nat) (l1 : List (S53)) (r : Bool) (w : World) (hr0_2 : Kd.C k96 w A0_2 l0_2.length l0_2) (hc0_2 : l0_2.length ≤ c0_2) (hr1 : Kd.C k53 w A1 l1.length l1) (hc1 : l1.length ≤ c1) (hr_ : r = true) (h : laws_FnExactPeaceful.f k a0_0 a0_1 l0_2 l1 = some r) :
  Calls Try.prog 8 #[.agg #[.int .i64 a0_0, .int .i64 a0_1, .slice A0_2 l0_2.length c0_2], .slice A1 l1.length c1] w fun e w' => e = .returned (.bool r) ∧ Below w.heap.size w w' := by
 subst hr_
 have hu24 := Try.underlying24
 have hu33 := Try.underlying33
 have HR0_2 := Aside0.mk hr0_2
 have HC0_2 := Aside0.mk hc0_2
 clear hr0_2 hc0_2
 have HR1 := Aside0.mk hr1
 have HC1 := Aside0.mk hc1
 clear hr1 hc1
 have HB := Aside0.mk (Below.refl w.heap.size w)
 have H : ((laws_szDoc.f k a0_0 a0_1 l0_2 1048576).bind fun t517 => (if t517 < 0 then (some true) else ((laws_szHoldS.f l1 t517).bind fun t518 => (if t518 < 0 then (some true) else ((laws_toDoc.f k a0_0 a0_1 l0_2).bind fun bt519 => ((laws_toHoldS.f k l1).bind fun t524 => ((spec_Peaceful.f k bt519.1 bt519.2.1 bt519.2.2 t524).bind fun bt527 => ((laws_toDoc.f k a0_0 a0_1 l0_2).bind fun bt529 => ((laws_toHoldS.f k l1).bind fun t535 => ((impl_Peaceful.f k bt529.1 bt529.2.1 bt529.2.2 t535).bind fun bt538 => (if (bt538.1 != bt527.1) = true then (laws_FnExactPeaceful.j0 k l1 t535 true a0_0 a0_1 l0_2 bt529.1 bt529.2.1 bt529.2.2) else (laws_FnExactPeaceful.j0 k l1 t535 (bt538.2 != bt527.2) a0_0 a0_1 l0_2 bt529.1 bt529.2.1 bt529.2.2)))))))))))) = some true := h
 clear h
 obtain ⟨t517, A3, H⟩ := Xbi H
 (try dsimp only at H)
 have HC4 := Aside0.mk H
 clear H
 go_enter Try.func8, Try.ntmps8
 go_upto_if 16 with (first | ((with_reducible refine gate_dst (N := 2) rfl ?_); refine Xbox 2 #[.int .i64 a0_0, .int .i64 a0_1, .slice A0_2 l0_2.length c0_2] 24 ?_; intro gb516 hg w5 hbox hb; have BK516 := Aside0.mk (hbox); have GE516 := Xge hg Xi; replace HB := Aside0.mk (below_step Xi hb); clear hb hbox hg; obtain ⟨hcz6_0, hcz6_1, hcz6_2⟩ := Xc3 BK516; obtain ⟨hfz6_0, hfz6_1, hfz6_2⟩ := Xf3 BK516) | ((with_reducible refine gate_callee (f := 10) rfl ?_); refine Xgo 14 Try.func10 #[.agg #[.int .i64 a0_0, .int .i64 a0_1, .slice A0_2 l0_2.length c0_2], .int .i64 1048576] ?_; (with_reducible refine (laws_szDoc.calls k a0_0 a0_1 _ _ l0_2 1048576 t517 _ ?side1 ?side2 A3.out).mono ?_); (case side1 => exact Xc HR0_2); (case side2 => exact HC0_2.out); rintro e w7 ⟨rfl, hb⟩; refine ⟨_, rfl, ?_⟩; replace BK516 := Xbb BK516 hb; replace HB := Aside0.mk (below_step Xi hb); clear hb))
 have H := HC4.out
 clear HC4
 obtain ⟨c8b0, H⟩ | ⟨c8b0, H⟩ := Xit H
 ·(first | rw [c8b0] | (simp only [i64_w, i32_w]; rw [c8b0]) | skip)
  go_wp2
  go_ret
  exact ⟨Xe, Xi⟩
 ·(first | rw [c8b0] | (simp only [i64_w, i32_w]; rw [c8b0]) | skip)
  obtain ⟨t518, A9, H⟩ := Xbi H
  (try dsimp only at H)
  have HC10 := Aside0.mk H
  clear H
  go_upto_if 21 with (first | ((with_reducible refine gate_callee (f := 18) rfl ?_); refine Xgo 19 Try.func18 #[.slice A1 l1.length c1, .int .i64 t517] ?_; (with_reducible refine (laws_szHoldS.calls _ _ l1 t517 t518 _ ?side1 ?side2 A9.out).mono ?_); (case side1 => exact Xc HR1); (case side2 => exact HC1.out); rintro e w' ⟨rfl, ⟨nd, rfl⟩⟩; refine ⟨_, rfl, ?_⟩))
  (try (rw [drewN_self w7]; generalize hq_ : World.drewN w7 _ = w7; have n0_ : Aside0 (w7.heap[gb516]? = some (.cells #[.int .i64 a0_0, .int .i64 a0_1, .slice A0_2 l0_2.length c0_2] 24 (0, 0))) := ⟨by rw [← hq_]; exact BK516.out⟩; have n1_ : Aside0 (Below w.heap.size w w7) := ⟨by rw [← hq_]; exact Xi⟩; clear BK516 HB hq_; have BK516 := n0_; have HB := n1_; clear n0_ n1_))
  have H := HC10.out
  clear HC10
  obtain ⟨c11b0, H⟩ | ⟨c11b0, H⟩ := Xit H
  ·(first | rw [c11b0] | (simp only [i64_w, i32_w]; rw [c11b0]) | skip)
   go_wp2
   go_ret
   exact ⟨Xe, Xi⟩
  ·(first | rw [c11b0] | (simp only [i64_w, i32_w]; rw [c11b0]) | skip)
   replace H := Option.bind_eq_some_iff.mp H
   obtain ⟨⟨t519, t520, t521⟩, A120, H⟩ := H
   (try dsimp only at H)
   have A12 := Aside0.mk A120
   clear A120
   obtain ⟨t524, A13, H⟩ := Xbi H
   (try dsimp only at H)
   replace H := Option.bind_eq_some_iff.mp H
   obtain ⟨⟨t527, t528⟩, A140, H⟩ := H
   (try dsimp only at H)
   have A14 := Aside0.mk A140
   clear A140
   replace H := Option.bind_eq_some_iff.mp H
   obtain ⟨⟨t529, t530, t531⟩, A150, H⟩ := H
   (try dsimp only at H)
   have A15 := Aside0.mk A150
   clear A150
   obtain ⟨t535, A16, H⟩ := Xbi H
   (try dsimp only at H)
   replace H := Option.bind_eq_some_iff.mp H
   obtain ⟨⟨t538, t539⟩, A170, H⟩ := H
   (try dsimp only at H)
   have A17 := Aside0.mk A170
   clear A170
   have HC18 := Aside0.mk H
   clear H
   obtain ⟨hcz19_0, hcz19_1, hcz19_2⟩ := Xc3 BK516
   obtain ⟨hfz19_0, hfz19_1, hfz19_2⟩ := Xf3 BK516
   go_upto_region 12 with (first | ((with_reducible refine gate_callee (f := 13) rfl ?_); refine Xgo 24 Try.func13 #[.agg #[.int .i64 a0_0, .int .i64 a0_1, .slice A0_2 l0_2.length c0_2]] ?_; (with_reducible refine (laws_toDoc.calls k a0_0 a0_1 _ _ l0_2 t519 t520 t521 _ ?side1 ?side2 A12.out).mono ?_); (case side1 => exact Xc HR0_2); (case side2 => exact HC0_2.out); rintro e w20 ⟨v522, rfl, ho0, hb⟩; refine ⟨_, rfl, ?_⟩; have HO523 := Aside0.mk (Kd.S_lower ho0 (below_size Xi)); replace BK516 := Xbb BK516 hb; replace HB := Aside0.mk (below_step Xi hb); clear hb; (try clear ho0)) | ((with_reducible refine gate_callee (f := 20) rfl ?_); refine Xgo 26 Try.func20 #[.slice A1 l1.length c1] ?_; (with_reducible refine (laws_toHoldS.calls k _ _ l1 t524 _ ?side1 ?side2 A13.out).mono ?_); (case side1 => exact Xc HR1); (case side2 => exact HC1.out); rintro e w21 ⟨v525, rfl, ho0, hb⟩; refine ⟨_, rfl, ?_⟩; replace HO523 := Aside0.mk (Kd.S_below (Xq HO523) hb); have HO526 := Aside0.mk (Kd.R_lower ho0 (below_size Xi)); replace BK516 := Xbb BK516 hb; replace HB := Aside0.mk (below_step Xi hb); clear hb; (try clear ho0); obtain ⟨Ao22, co22, eo22⟩ := Kd.S_slice HO523.out; subst eo22; obtain ⟨Ao23, co23, eo23⟩ := Kd.R_slice HO526.out; subst eo23) | ((with_reducible refine gate_callee (f := 33) rfl ?_); refine Xgo 27 Try.func33 #[.agg #[.int .i64 t519, .int .i64 t520, .slice Ao22 t521.length co22], .slice Ao23 t524.length co23] ?_; (with_reducible refine (spec_Peaceful.calls k t519 t520 _ _ t521 _ _ t524 t527 t528 _ ?side1 ?side2 ?side3 ?side4 A14.out).mono ?_); (case side1 => repeat (first | exact (Kd.S_reads' HO523.out).2.2 | (with_reducible first | refine Kd.C_alloc ?_ _ | refine Kd.C_drewN ?_ _ | refine Kd.C_drew ?_))); (case side2 => exact (Kd.S_reads' HO523.out).2.1); (case side3 => repeat (first | exact (Kd.R_reads' HO526.out).2.2 | (with_reducible first | refine Kd.C_alloc ?_ _ | refine Kd.C_drewN ?_ _ | refine Kd.C_drew ?_))); (case side4 => exact (Kd.R_reads' HO526.out).2.1); rintro e w24 ⟨rfl, hb⟩; refine ⟨_, rfl, ?_⟩; replace HO523 := Aside0.mk (Kd.S_below (Xq HO523) hb); replace HO526 := Aside0.mk (Kd.R_below (Xq HO526) hb); replace BK516 := Xbb BK516 hb; replace HB := Aside0.mk (below_step Xi hb); clear hb; obtain ⟨hcz25_0, hcz25_1, hcz25_2⟩ := Xc3 BK516; obtain ⟨hfz25_0, hfz25_1, hfz25_2⟩ := Xf3 BK516) | ((with_reducible refine gate_callee (f := 13) rfl ?_); refine Xgo 31 Try.func13 #[.agg #[.int .i64 a0_0, .int .i64 a0_1, .slice A0_2 l0_2.length c0_2]] ?_; (with_reducible refine (laws_toDoc.calls k a0_0 a0_1 _ _ l0_2 t529 t530 t531 _ ?side1 ?side2 A15.out).mono ?_); (case side1 => exact Xc HR0_2); (case side2 => exact HC0_2.out); rintro e w26 ⟨v532, rfl, ho0, hb⟩; refine ⟨_, rfl, ?_⟩; replace HO526 := Aside0.mk (Kd.R_below (Xq HO526) hb); have HO533 := Aside0.mk (Kd.S_lower (Kd.S_new' ho0 (Kd.S_lt (Xq HO523))) (below_size Xi)); replace HO523 := Aside0.mk (Kd.S_elder' (Xq HO523) (Kd.S_base ho0) hb); replace BK516 := Xbb BK516 hb; replace HB := Aside0.mk (below_step Xi hb); clear hb; (try clear ho0)) | ((with_reducible refine gate_dst (N := 8) rfl ?_); refine Xbox 8 #[.int .i64 0, .int .i64 0, .slice none 0 0] 33 ?_; intro gb534 hg w27 hbox hb; replace HO523 := Aside0.mk (Kd.S_below (Xq HO523) hb); replace HO526 := Aside0.mk (Kd.R_below (Xq HO526) hb); replace HO533 := Aside0.mk (Kd.S_below (Xq HO533) hb); have BK534 := Aside0.mk (hbox); have GE534 := Xge hg Xi; replace HB := Aside0.mk (below_step Xi hb); have NB516_534 := Xnb hg BK516; have NB534_516 := Xns NB516_534; replace BK516 := Xbb BK516 hb; clear hb hbox hg; have hnb28 := NB534_516.out; have hnc28 := NB516_534.out; obtain ⟨hcz29_0, hcz29_1, hcz29_2⟩ := Xc3 BK534; obtain ⟨hfz29_0, hfz29_1, hfz29_2⟩ := Xf3 BK534; obtain ⟨Ao30, co30, eo30⟩ := Kd.S_slice HO533.out; subst eo30) | ((with_reducible refine gate_store (t := 33) (p := 8) rfl ?_); refine store_event (t := 33) (p := 8) (v := ?vo_w31) (w1 := (((w27.setCell ⟨gb534, 0, none⟩ (.int .i64 t529)).setCell ⟨gb534, 1, none⟩ (.int .i64 t530)).setCell ⟨gb534, 2, none⟩ (.slice Ao30 t531.length co30))) ?hg ?ho ?hn ?hr ?_; (case ho => rfl); (case hg => rfl); (case hn => rfl); (case hr => first | (go_simp; done) | (go_simp; rfl)); intro w31 hw; have n0_ : Aside0 (Kd.S k92 92 w31 w.heap.size (fun k_ => some k_ ≠ (.slice Ao30 t531.length co30 : Value).ownBlock) (.slice Ao22 t521.length co22) t521) := ⟨(by rw [hw]; exact (by (with_reducible repeat (first | apply Kd.S_alloc | apply Kd.S_drewN | apply Kd.S_drew)); exact Kd.S_mono (Kd.S_far (p := ⟨gb534, 2, none⟩) (Kd.S_far (p := ⟨gb534, 1, none⟩) (Kd.S_far (p := ⟨gb534, 0, none⟩) (Kd.S_types HO523.out BK534.out (by decide)) (fun _ hk => hk.2) (.int .i64 t529)) (fun _ hk => hk.2) (.int .i64 t530)) (fun _ hk => hk.2) (.slice Ao30 t531.length co30)) (fun _ hk => hk.1.2)))⟩; have n1_ : Aside0 (Kd.R k55 55 w31 w.heap.size (fun _ => True) (.slice Ao23 t524.length co23) t524) := ⟨(by rw [hw]; exact (by (with_reducible repeat (first | apply Kd.R_alloc | apply Kd.R_drewN | apply Kd.R_drew)); exact Kd.R_mono (Kd.R_far (p := ⟨gb534, 2, none⟩) (Kd.R_far (p := ⟨gb534, 1, none⟩) (Kd.R_far (p := ⟨gb534, 0, none⟩) (Kd.R_types HO526.out BK534.out (by decide)) (fun _ hk => hk.2) (.int .i64 t529)) (fun _ hk => hk.2) (.int .i64 t530)) (fun _ hk => hk.2) (.slice Ao30 t531.length co30)) (fun _ hk => trivial)))⟩; have n2_ : Aside0 (Kd.S k92 92 w31 w.heap.size (fun k_ => some k_ ≠ (.slice Ao22 t521.length co22 : Value).ownBlock) (.slice Ao30 t531.length co30) t531) := ⟨(by rw [hw]; exact (by (with_reducible repeat (first | apply Kd.S_alloc | apply Kd.S_drewN | apply Kd.S_drew)); exact Kd.S_mono (Kd.S_far (p := ⟨gb534, 2, none⟩) (Kd.S_far (p := ⟨gb534, 1, none⟩) (Kd.S_far (p := ⟨gb534, 0, none⟩) (Kd.S_types HO533.out BK534.out (by decide)) (fun _ hk => hk.2) (.int .i64 t529)) (fun _ hk => hk.2) (.int .i64 t530)) (fun _ hk => hk.2) (.slice Ao30 t531.length co30)) (fun _ hk => hk.1.2)))⟩; have n3_ : Aside0 (w31.heap[gb516]? = some (.cells #[.int .i64 a0_0, .int .i64 a0_1, .slice A0_2 l0_2.length c0_2] 24 (0, 0))) := ⟨(by rw [hw]; exact (by (with_reducible repeat (first | refine blk_drewN ?_ _ | refine blk_drew ?_ | refine blk_alloc ?_ _)); refine blk_far ?_ NB516_534.out _; (with_reducible repeat (first | refine blk_drewN ?_ _ | refine blk_drew ?_ | refine blk_alloc ?_ _)); refine blk_far ?_ NB516_534.out _; (with_reducible repeat (first | refine blk_drewN ?_ _ | refine blk_drew ?_ | refine blk_alloc ?_ _)); refine blk_far ?_ NB516_534.out _; (with_reducible repeat (first | refine blk_drewN ?_ _ | refine blk_drew ?_ | refine blk_alloc ?_ _)); exact BK516.out))⟩; have n4_ : Aside0 (w31.heap[gb534]? = some (.cells #[.int .i64 t529, .int .i64 t530, .slice Ao30 t531.length co30] 33 (0, 0))) := ⟨(by rw [hw]; exact (by (with_reducible repeat (first | refine blk_drewN ?_ _ | refine blk_drew ?_ | refine blk_alloc ?_ _)); refine blk_put (cs := #[.int .i64 t529, .int .i64 t530, .slice none 0 0]) ?_ 2 _ rfl; (with_reducible repeat (first | refine blk_drewN ?_ _ | refine blk_drew ?_ | refine blk_alloc ?_ _)); refine blk_put (cs := #[.int .i64 t529, .int .i64 0, .slice none 0 0]) ?_ 1 _ rfl; (with_reducible repeat (first | refine blk_drewN ?_ _ | refine blk_drew ?_ | refine blk_alloc ?_ _)); refine blk_put (cs := #[.int .i64 0, .int .i64 0, .slice none 0 0]) ?_ 0 _ rfl; (with_reducible repeat (first | refine blk_drewN ?_ _ | refine blk_drew ?_ | refine blk_alloc ?_ _)); exact BK534.out))⟩; have n5_ : Aside0 (Below w.heap.size w w31) := ⟨(by rw [hw]; exact Xi)⟩; clear hw; clear HO523; clear HO526; clear HO533; clear BK516; clear BK534; clear HB; have HO523 := n0_; have HO526 := n1_; have HO533 := n2_; have BK516 := n3_; have BK534 := n4_; have HB := n5_; clear n0_ n1_ n2_ n3_ n4_ n5_) | ((with_reducible refine gate_callee (f := 20) rfl ?_); refine Xgo 33 Try.func20 #[.slice A1 l1.length c1] ?_; (with_reducible refine (laws_toHoldS.calls k _ _ l1 t535 _ ?side1 ?side2 A16.out).mono ?_); (case side1 => exact Xc HR1); (case side2 => exact HC1.out); rintro e w32 ⟨v536, rfl, ho0, hb⟩; refine ⟨_, rfl, ?_⟩; replace HO523 := Aside0.mk (Kd.S_below (Xq HO523) hb); replace HO533 := Aside0.mk (Kd.S_below (Xq HO533) hb); have HO537 := Aside0.mk (Kd.R_lower (Kd.R_new' ho0 (Kd.R_lt (Xq HO526))) (below_size Xi)); replace HO526 := Aside0.mk (Kd.R_elder' (Xq HO526) (Kd.R_base ho0) hb); replace BK516 := Xbb BK516 hb; replace BK534 := Xbb BK534 hb; replace HB := Aside0.mk (below_step Xi hb); clear hb; (try clear ho0); obtain ⟨hcz33_0, hcz33_1, hcz33_2⟩ := Xc3 BK534; obtain ⟨hfz33_0, hfz33_1, hfz33_2⟩ := Xf3 BK534; obtain ⟨Ao34, co34, eo34⟩ := Kd.R_slice HO537.out; subst eo34) | ((with_reducible refine gate_callee (f := 34) rfl ?_); refine Xgo 37 Try.func34 #[.agg #[.int .i64 t529, .int .i64 t530, .slice Ao30 t531.length co30], .slice Ao34 t535.length co34] ?_; (with_reducible refine (impl_Peaceful.calls k t529 t530 _ _ t531 _ _ t535 t538 t539 _ ?side1 ?side2 ?side3 ?side4 A17.out).mono ?_); (case side1 => repeat (first | exact (Kd.S_reads' HO533.out).2.2 | (with_reducible first | refine Kd.C_alloc ?_ _ | refine Kd.C_drewN ?_ _ | refine Kd.C_drew ?_))); (case side2 => exact (Kd.S_reads' HO533.out).2.1); (case side3 => repeat (first | exact (Kd.R_reads' HO537.out).2.2 | (with_reducible first | refine Kd.C_alloc ?_ _ | refine Kd.C_drewN ?_ _ | refine Kd.C_drew ?_))); (case side4 => exact (Kd.R_reads' HO537.out).2.1); rintro e w35 ⟨rfl, hb⟩; refine ⟨_, rfl, ?_⟩; replace HO523 := Aside0.mk (Kd.S_below (Xq HO523) hb); replace HO526 := Aside0.mk (Kd.R_below (Xq HO526) hb); replace HO533 := Aside0.mk (Kd.S_below (Xq HO533) hb); replace HO537 := Aside0.mk (Kd.R_below (Xq HO537) hb); replace BK516 := Xbb BK516 hb; replace BK534 := Xbb BK534 hb; replace HB := Aside0.mk (below_step Xi hb); clear hb))
   (try simp only [XW.q0, XW.q1, XW.q2])
   go_cut [47] (fun v47 wc => ∃ (kq : Nat) (x47_17 : Bool), v47 = .bool x47_17 ∧ Aside0 (laws_FnExactPeaceful.j0 kq l1 t535 x47_17 a0_0 a0_1 l0_2 t529 t530 t531 = some true) ∧ Aside0 (kq ≤ k) ∧ Aside0 (Kd.R k55 55 wc w.heap.size (fun _ => True) (.slice Ao34 t535.length co34) t535) ∧ Aside0 (Kd.S k92 92 wc w.heap.size (fun _ => True) (.slice Ao30 t531.length co30) t531) ∧ Aside0 (wc.heap[gb516]? = some (.cells #[.int .i64 a0_0, .int .i64 a0_1, (.slice A0_2 l0_2.length c0_2)] 24 (0, 0))) ∧ Aside0 (wc.heap[gb534]? = some (.cells #[.int .i64 t529, .int .i64 t530, (.slice Ao30 t531.length co30)] 33 (0, 0))) ∧ Aside0 (Below w.heap.size w wc))
   case first =>
    have H := HC18.out
    clear HC18
    obtain ⟨c36, H⟩ | ⟨c36, H⟩ := Xiu H
    ·have c36b0 : (t538 != t527) = true := c36
     (try (have c36b1 : decide (t538 = t527) = false := by simpa using c36))
     (try (have c36b2 : (t538 == t527) = false := by simpa using c36))
     (try (have c36b3 : ¬ (t538 = t527) := by simpa using c36))
     (try (have c36b4 : ((!t538) == t527) = true := by revert c36; cases t538 <;> cases t527 <;> simp))
     clear c36
     (first | rw [c36b0] | (simp only [i64_w, i32_w]; rw [c36b0]) | simp only [c36b2, Bool.not_true, Bool.not_false] | skip)
     have H' := Aside0.mk H
     clear H
     go_wp2
     go_meet
     case rel => exact ⟨_, (true), Xr, H', Xko, ⟨by (with_reducible repeat (first | apply Kd.R_alloc | apply Kd.R_drewN | apply Kd.R_drew)); exact Kd.R_mono HO537.out (fun _ hk => trivial)⟩, ⟨by (with_reducible repeat (first | apply Kd.S_alloc | apply Kd.S_drewN | apply Kd.S_drew)); exact Kd.S_mono HO533.out (fun _ hk => trivial)⟩, BK516, BK534, ⟨Xi⟩⟩
    ·have c36b0 : (t538 != t527) = false := by simpa using c36
     (try (have c36b1 : decide (t538 = t527) = true := by simpa using c36))
     (try (have c36b2 : (t538 == t527) = true := by simpa using c36))
     (try (have c36b3 : ((!t538) == t527) = false := by revert c36; cases t538 <;> cases t527 <;> simp))
     clear c36
     (first | rw [c36b0] | (simp only [i64_w, i32_w]; rw [c36b0]) | simp only [c36b2, Bool.not_true, Bool.not_false] | skip)
     have H' := Aside0.mk H
     clear H
     go_wp2
     go_meet
     case rel => exact ⟨_, ((t539 != t528)), Xr, H', Xko, ⟨by (with_reducible repeat (first | apply Kd.R_alloc | apply Kd.R_drewN | apply Kd.R_drew)); exact Kd.R_mono HO537.out (fun _ hk => trivial)⟩, ⟨by (with_reducible repeat (first | apply Kd.S_alloc | apply Kd.S_drewN | apply Kd.S_drew)); exact Kd.S_mono HO533.out (fun _ hk => trivial)⟩, BK516, BK534, ⟨Xi⟩⟩
   case rest =>
    clear HC18
    (try clear c1); (try clear c8); (try clear c8b0); (try clear c11); (try clear c11b0); (try clear hcz19_0); (try clear hcz19_1); (try clear hcz19_2); (try clear hcz25_0); (try clear hcz25_1); (try clear hcz25_2); (try clear hcz29_0); (try clear hcz29_1); (try clear hcz29_2); (try clear hcz33_0); (try clear hcz33_1); (try clear hcz33_2); (try clear hcz6_0); (try clear hcz6_1); (try clear hcz6_2); (try clear hfz19_0); (try clear hfz19_1); (try clear hfz19_2); (try clear hfz25_0); (try clear hfz25_1); (try clear hfz25_2); (try clear hfz29_0); (try clear hfz29_1); (try clear hfz29_2); (try clear hfz33_0); (try clear hfz33_1); (try clear hfz33_2); (try clear hfz6_0); (try clear hfz6_1); (try clear hfz6_2)
    obtain ⟨kq, x47_17, rfl, HA, HJ17, HO_9, HO_535002, BK516, BK534, HB⟩ := hcut
    cases kq with
    | zero => cases HA.out
    | succ kj17 =>
     have H := HA.out
     clear HA
     simp only [laws_FnExactPeaceful.j0] at H
     by_cases c37 : x47_17 = true
     ·subst c37
      (first | rw [if_pos rfl] at H | skip)
      cases H
     ·replace c37 := Bool.eq_false_iff.mpr c37
      subst c37
      (first | rw [if_neg (show ¬ (false = true) by decide)] at H | skip)
      replace H := Option.bind_eq_some_iff.mp H
      obtain ⟨⟨t540, t541, t542⟩, A380, H⟩ := H
      (try dsimp only at H)
      have A38 := Aside0.mk A380
      clear A380
      obtain ⟨t545, A39, H⟩ := Xbi H
      (try dsimp only at H)
      have HC40 := Aside0.mk H
      clear H
      try go_wp2_with (fail)
      replace HO_9 := Aside0.mk (Kd.R_drew HO_9.out)
      replace HO_535002 := Aside0.mk (Kd.S_drew HO_535002.out)
      replace BK516 := Aside0.mk (blk_drew BK516.out)
      replace BK534 := Aside0.mk (blk_drew BK534.out)
      replace HB := Aside0.mk (below_drew1 HB.out)
      refine start_ (n := 5) (S := fun w' => w'.cell? ⟨gb534, 0, none⟩ = some (.int .i64 t529) ∧ w'.cell? ⟨gb534, 1, none⟩ = some (.int .i64 t530) ∧ w'.cell? ⟨gb534, 2, none⟩ = some (.slice Ao30 t531.length co30) ∧ w'.cell? ⟨gb516, 0, none⟩ = some (.int .i64 a0_0) ∧ w'.cell? ⟨gb516, 1, none⟩ = some (.int .i64 a0_1) ∧ w'.cell? ⟨gb516, 2, none⟩ = some (.slice A0_2 l0_2.length c0_2)) (ds := []) #[false, false, false, false, false] (by kernel_rfl) rfl rfl ⟨(blk_cell BK534.out 0).trans rfl, (blk_cell BK534.out 1).trans rfl, (blk_cell BK534.out 2).trans rfl, (blk_cell BK516.out 0).trans rfl, (blk_cell BK516.out 1).trans rfl, (blk_cell BK516.out 2).trans rfl⟩ (fun hHeld => ?_)
      generalize wc.drew = w41 at HO_9 HO_535002 BK516 BK534 HB hHeld ⊢
      refine take_ (i := 0) (N := some 48) (v := ?_) (a' := ?_) #[true, false, false, false, false] rfl rfl (by kernel_rfl) (fun _ _ _ h => h) (Or.inl ⟨by rfl, ?_⟩) hHeld ?_ ?_
      rotate_left
      ·rintro w' ⟨s0, s1, s2, s3, s4, s5⟩
       go_simp
       with_reducible rfl
      rotate_left
      ·simp only [XW.q0, XW.q1, XW.q2, i64_w, i32_w]
       rfl
      refine take_ (i := 1) (N := some 49) (v := ?_) (a' := ?_) #[true, true, false, false, false] rfl rfl (by kernel_rfl) (fun _ _ _ h => h) (Or.inl ⟨by rfl, ?_⟩) hHeld ?_ ?_
      rotate_left
      ·rintro w' ⟨s0, s1, s2, s3, s4, s5⟩
       go_simp
       with_reducible rfl
      rotate_left
      ·simp only [XW.q0, XW.q1, XW.q2, i64_w, i32_w]
       rfl
      refine one_ (i := 2) (N := some 50) #[true, true, true, false, false] rfl rfl (by kernel_rfl) (by decide) (fun K hK => ?_)
      refine goes_ Try.func13 (by kernel_rfl) rfl #[.agg #[.int .i64 a0_0, .int .i64 a0_1, .slice A0_2 l0_2.length c0_2]] (by rfl) rfl rfl (by (try simp only [List.map_toArray, List.map_cons, List.map_nil]); first | done | rfl | (simp only [List.length_drop, List.length_take]; rfl)) ?_
      with_reducible refine (laws_toDoc.calls kj17 a0_0 a0_1 _ _ l0_2 t540 t541 t542 _ ?side1 ?side2 A38.out).mono ?_
      (case side1 => exact Xc HR0_2)
      (case side2 => exact HC0_2.out)
      rintro e w42 ⟨v543, rfl, ho0, hb⟩
      refine ⟨_, rfl, ?_⟩
      replace HO_9 := Aside0.mk (Kd.R_below (Xq HO_9) hb)
      have HO544 := Aside0.mk (Kd.S_lower (Kd.S_new' ho0 (Kd.S_lt (Xq HO_535002))) (below_size Xi))
      replace HO_535002 := Aside0.mk (Kd.S_elder' (Xq HO_535002) (Kd.S_base ho0) hb)
      replace BK516 := Xbb BK516 hb
      replace BK534 := Xbb BK534 hb
      replace HB := Aside0.mk (below_step Xi hb)
      (try clear hb)
      (try clear hb2)
      (try clear hk)
      (try clear hi)
      (try clear ho0)
      obtain ⟨Ao43, co43, eo43⟩ := Kd.S_slice HO544.out
      (first | subst eo43 | (injection eo43 with f1_ f2_ f3_; have f4_ := f1_.symm; have f5_ := f3_.symm; clear f1_ f2_ f3_; subst f4_; subst f5_))
      refine hK.out _ _ ⟨(blk_cell BK534.out 0).trans rfl, (blk_cell BK534.out 1).trans rfl, (blk_cell BK534.out 2).trans rfl, (blk_cell BK516.out 0).trans rfl, (blk_cell BK516.out 1).trans rfl, (blk_cell BK516.out 2).trans rfl⟩ (fun hHeld => ?_)
      clear hK K
      refine Xno ?_
      refine one_ (i := 3) (N := some 51) #[true, true, true, true, false] rfl rfl (by kernel_rfl) (by decide) (fun K hK => ?_)
      refine goes_ Try.func16 (by kernel_rfl) rfl #[.agg #[.int .i64 t529, .int .i64 t530, .slice Ao30 t531.length co30], .agg #[.int .i64 t540, .int .i64 t541, .slice Ao43 t542.length co43]] (by rfl) rfl rfl (by (try simp only [List.map_toArray, List.map_cons, List.map_nil]); first | done | rfl | (simp only [List.length_drop, List.length_take]; rfl)) ?_
      with_reducible refine (laws_eqDoc.calls kj17 t529 t530 _ _ t531 t540 t541 _ _ t542 t545 _ ?side1 ?side2 ?side3 ?side4 A39.out).mono ?_
      (case side1 => repeat (first | exact (Kd.S_reads' HO_535002.out).2.2 | (with_reducible first | refine Kd.C_alloc ?_ _ | refine Kd.C_drewN ?_ _ | refine Kd.C_drew ?_)))
      (case side2 => exact (Kd.S_reads' HO_535002.out).2.1)
      (case side3 => repeat (first | exact (Kd.S_reads' HO544.out).2.2 | (with_reducible first | refine Kd.C_alloc ?_ _ | refine Kd.C_drewN ?_ _ | refine Kd.C_drew ?_)))
      (case side4 => exact (Kd.S_reads' HO544.out).2.1)
      rintro e w44 ⟨rfl, hb⟩
      refine ⟨_, rfl, ?_⟩
      replace HO_9 := Aside0.mk (Kd.R_below (Xq HO_9) hb)
      replace HO_535002 := Aside0.mk (Kd.S_below (Xq HO_535002) hb)
      replace HO544 := Aside0.mk (Kd.S_below (Xq HO544) hb)
      replace BK516 := Xbb BK516 hb
      replace BK534 := Xbb BK534 hb
      replace HB := Aside0.mk (below_step Xi hb)
      (try clear hb)
      (try clear hb2)
      (try clear hk)
      (try clear hi)
      refine hK.out _ _ ⟨(blk_cell BK534.out 0).trans rfl, (blk_cell BK534.out 1).trans rfl, (blk_cell BK534.out 2).trans rfl, (blk_cell BK516.out 0).trans rfl, (blk_cell BK516.out 1).trans rfl, (blk_cell BK516.out 2).trans rfl⟩ (fun hHeld => ?_)
      clear hK K
      refine Xno ?_
      refine pure_ (i := 4) (N := some 52) (v := ?_) (a' := ?_) #[true, true, true, true, true] rfl rfl (by kernel_rfl) (fun _ _ _ h => h) (Or.inl ⟨by rfl, ?_⟩) ?_ ?_
      rotate_left
      ·intro w'
       go_simp
       with_reducible rfl
      rotate_left
      ·simp only [XW.q0, XW.q1, XW.q2, i64_w, i32_w]
       rfl
      refine done_ (by kernel_rfl) ?_
      go_upto_if 52 with (fail)
      have H := HC40.out
      clear HC40
      by_cases c45 : t545 = true
      ·subst c45
       (first | rw [if_pos rfl] at H | skip)
       obtain ⟨t546, A46, H⟩ := Xbi H
       (try dsimp only at H)
       obtain ⟨t549, A47, H⟩ := Xbi H
       (try dsimp only at H)
       have HC48 := Aside0.mk H
       clear H
       go_upto_if 57 with (first | ((with_reducible refine gate_callee (f := 20) rfl ?_); refine Xgo 55 Try.func20 #[.slice A1 l1.length c1] ?_; (with_reducible refine (laws_toHoldS.calls kj17 _ _ l1 t546 _ ?side1 ?side2 A46.out).mono ?_); (case side1 => exact Xc HR1); (case side2 => exact HC1.out); rintro e w49 ⟨v547, rfl, ho0, hb⟩; refine ⟨_, rfl, ?_⟩; replace HO_535002 := Aside0.mk (Kd.S_below (Xq HO_535002) hb); replace HO544 := Aside0.mk (Kd.S_below (Xq HO544) hb); have HO548 := Aside0.mk (Kd.R_lower (Kd.R_new' ho0 (Kd.R_lt (Xq HO_9))) (below_size Xi)); replace HO_9 := Aside0.mk (Kd.R_elder' (Xq HO_9) (Kd.R_base ho0) hb); replace BK516 := Xbb BK516 hb; replace BK534 := Xbb BK534 hb; replace HB := Aside0.mk (below_step Xi hb); clear hb; (try clear ho0); obtain ⟨Ao50, co50, eo50⟩ := Kd.R_slice HO548.out; subst eo50) | ((with_reducible refine gate_callee (f := 22) rfl ?_); refine Xgo 56 Try.func22 #[.slice Ao34 t535.length co34, .slice Ao50 t546.length co50] ?_; (with_reducible refine (laws_eqHoldS.calls kj17 _ _ t535 _ _ t546 t549 _ ?side1 ?side2 ?side3 ?side4 A47.out).mono ?_); (case side1 => repeat (first | exact (Kd.R_reads' HO_9.out).2.2 | (with_reducible first | refine Kd.C_alloc ?_ _ | refine Kd.C_drewN ?_ _ | refine Kd.C_drew ?_))); (case side2 => exact (Kd.R_reads' HO_9.out).2.1); (case side3 => repeat (first | exact (Kd.R_reads' HO548.out).2.2 | (with_reducible first | refine Kd.C_alloc ?_ _ | refine Kd.C_drewN ?_ _ | refine Kd.C_drew ?_))); (case side4 => exact (Kd.R_reads' HO548.out).2.1); rintro e w51 ⟨rfl, hb⟩; refine ⟨_, rfl, ?_⟩; replace HO_9 := Aside0.mk (Kd.R_below (Xq HO_9) hb); replace HO_535002 := Aside0.mk (Kd.S_below (Xq HO_535002) hb); replace HO544 := Aside0.mk (Kd.S_below (Xq HO544) hb); replace HO548 := Aside0.mk (Kd.R_below (Xq HO548) hb); replace BK516 := Xbb BK516 hb; replace BK534 := Xbb BK534 hb; replace HB := Aside0.mk (below_step Xi hb); clear hb))
       have H := HC48.out
       clear HC48
       by_cases c52 : t549 = true
       ·subst c52
        (first | rw [if_pos rfl] at H | skip)
        go_wp2
        go_ret
        exact ⟨Xe, Xi⟩
       ·replace c52 := Bool.eq_false_iff.mpr c52
        subst c52
        (first | rw [if_neg (show ¬ (false = true) by decide)] at H | skip)
        cases H
      ·replace c45 := Bool.eq_false_iff.mpr c45
       subst c45
       (first | rw [if_neg (show ¬ (false = true) by decide)] at H | skip)
       cases H

end Go.Proofs.Ytnanfenogmpemaa.XA
