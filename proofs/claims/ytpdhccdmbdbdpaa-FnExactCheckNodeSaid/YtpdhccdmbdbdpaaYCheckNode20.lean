/- Contracts of the program's functions: each Go function that is named below comes to what its Lean function says. Written by xprint.py (a program of this session's, over the kit's print). Conditions: each contract's own premises. -/
import Derived.Test.YtpdhccdmbdbdpaaYCheckNode0
import Derived.Test.YtpdhccdmbdbdpaaYCheckNode1
import Derived.Test.YtpdhccdmbdbdpaaYCheckNode2
import Derived.Test.YtpdhccdmbdbdpaaYCheckNode3
import Derived.Test.YtpdhccdmbdbdpaaYCheckNode10
import Derived.Test.YtpdhccdmbdbdpaaYCheckNode11
import Derived.Test.YtpdhccdmbdbdpaaYCheckNode18
import Derived.Test.YtpdhccdmbdbdpaaYCheckNode19
namespace Go.Proofs.Ytpdhccdmbdbdpaa.XA
open Go.RowKit Go.Proofs.YtpdhccdmbdbdpaaW.PrintWords Go.Proofs.YtpdhccdmbdbdpaaW.PrintLast Go.Proofs.YtpdhccdmbdbdpaaW.PrintMore XW
attribute [local go_sem] max2_int min2_int max_two min_two max_three min_three max_four min_four   -- for this text's walks alone
set_option linter.unusedVariables false
set_option linter.unusedSimpArgs false

/-! ### laws_FnExactCheckNode: function 9 -/
def laws_FnExactCheckNode.f (k : Nat) (l0 : List (S90)) (a1_0 : Int) (a1_1 : Int) (l1_2 : List (S112)) (a2 : Int) : Option (Bool) := (laws_szRuleS.f k l0 1048576).bind fun t419 => (if t419 < 0 then (some true) else ((laws_szDoc.f k a1_0 a1_1 l1_2 t419).bind fun t420 => (if t420 < 0 then (some true) else ((laws_toRuleS.f k l0).bind fun t421 => ((laws_toDoc.f k a1_0 a1_1 l1_2).bind fun bt424 => ((spec_CheckNode.f k t421 bt424.1 bt424.2.1 bt424.2.2 a2).bind fun t429 => ((laws_toRuleS.f k l0).bind fun t430 => ((laws_toDoc.f k a1_0 a1_1 l1_2).bind fun bt433 => ((impl_CheckNode.f k t430 bt433.1 bt433.2.1 bt433.2.2 a2).bind fun t439 => (if t439 = t429 then ((laws_toRuleS.f k l0).bind fun t440 => ((laws_eqRuleS.f k t430 t440).bind fun t443 => (if t443 = true then ((laws_toDoc.f k a1_0 a1_1 l1_2).bind fun bt444 => ((laws_eqDoc.f k bt433.1 bt433.2.1 bt433.2.2 bt444.1 bt444.2.1 bt444.2.2).bind fun t449 => (if t449 = true then (some true) else (some false)))) else (some false)))) else (some false)))))))))))
set_option maxHeartbeats 8000000 in
set_option maxRecDepth 100000 in
theorem laws_FnExactCheckNode.calls (k : Nat) (A0 : Option Addr) (c0 : Nat) (l0 : List (S90)) (a1_0 : Int) (a1_1 : Int) (A1_2 : Option Addr) (c1_2 : Nat) (l1_2 : List (S112)) (a2 : Int) (r : Bool) (w : World) (hr0 : Kd.C k90 w A0 l0.length l0) (hc0 : l0.length ≤ c0) (hr1_2 : Kd.C k112 w A1_2 l1_2.length l1_2) (hc1_2 : l1_2.length ≤ c1_2) (hr_ : r = true) (h : laws_FnExactCheckNode.f k l0 a1_0 a1_1 l1_2 a2 = some r) :
  Calls Try.prog 9 #[.slice A0 l0.length c0, .agg #[.int .i64 a1_0, .int .i64 a1_1, .slice A1_2 l1_2.length c1_2], .int .i64 a2] w fun e w' => e = .returned (.bool r) ∧ Below w.heap.size w w' := by
 subst hr_
 have hu24 := Try.underlying24
 have hu29 := Try.underlying29
 have HR0 := Aside0.mk hr0
 have HC0 := Aside0.mk hc0
 clear hr0 hc0
 have HR1_2 := Aside0.mk hr1_2
 have HC1_2 := Aside0.mk hc1_2
 clear hr1_2 hc1_2
 have HB := Aside0.mk (Below.refl w.heap.size w)
 have H : ((laws_szRuleS.f k l0 1048576).bind fun t419 => (if t419 < 0 then (some true) else ((laws_szDoc.f k a1_0 a1_1 l1_2 t419).bind fun t420 => (if t420 < 0 then (some true) else ((laws_toRuleS.f k l0).bind fun t421 => ((laws_toDoc.f k a1_0 a1_1 l1_2).bind fun bt424 => ((spec_CheckNode.f k t421 bt424.1 bt424.2.1 bt424.2.2 a2).bind fun t429 => ((laws_toRuleS.f k l0).bind fun t430 => ((laws_toDoc.f k a1_0 a1_1 l1_2).bind fun bt433 => ((impl_CheckNode.f k t430 bt433.1 bt433.2.1 bt433.2.2 a2).bind fun t439 => (if t439 = t429 then ((laws_toRuleS.f k l0).bind fun t440 => ((laws_eqRuleS.f k t430 t440).bind fun t443 => (if t443 = true then ((laws_toDoc.f k a1_0 a1_1 l1_2).bind fun bt444 => ((laws_eqDoc.f k bt433.1 bt433.2.1 bt433.2.2 bt444.1 bt444.2.1 bt444.2.2).bind fun t449 => (if t449 = true then (some true) else (some false)))) else (some false)))) else (some false)))))))))))) = some true := h
 clear h
 obtain ⟨t419, A4, H⟩ := Xbi H
 (try dsimp only at H)
 have HC5 := Aside0.mk H
 clear H
 go_enter Try.func9, Try.ntmps9
 go_upto_if 16 with (first | ((with_reducible refine gate_dst (N := 4) rfl ?_); refine Xbox 4 #[.int .i64 a1_0, .int .i64 a1_1, .slice A1_2 l1_2.length c1_2] 24 ?_; intro gb418 hg w6 hbox hb; have BK418 := Aside0.mk (hbox); have GE418 := Xge hg Xi; replace HB := Aside0.mk (below_step Xi hb); clear hb hbox hg) | ((with_reducible refine gate_callee (f := 37) rfl ?_); refine Xgo 14 Try.func37 #[.slice A0 l0.length c0, .int .i64 1048576] ?_; (with_reducible refine (laws_szRuleS.calls k _ _ l0 1048576 t419 _ ?side1 ?side2 A4.out).mono ?_); (case side1 => exact Xc HR0); (case side2 => exact HC0.out); rintro e w7 ⟨rfl, hb⟩; refine ⟨_, rfl, ?_⟩; replace BK418 := Xbb BK418 hb; replace HB := Aside0.mk (below_step Xi hb); clear hb))
 have H := HC5.out
 clear HC5
 obtain ⟨c8b0, H⟩ | ⟨c8b0, H⟩ := Xit H
 ·(first | rw [c8b0] | (simp only [i64_w, i32_w]; rw [c8b0]) | skip)
  go_wp2
  go_ret
  exact ⟨Xe, Xi⟩
 ·(first | rw [c8b0] | (simp only [i64_w, i32_w]; rw [c8b0]) | skip)
  obtain ⟨t420, A9, H⟩ := Xbi H
  (try dsimp only at H)
  have HC10 := Aside0.mk H
  clear H
  obtain ⟨hcz11_0, hcz11_1, hcz11_2⟩ := Xc3 BK418
  obtain ⟨hfz11_0, hfz11_1, hfz11_2⟩ := Xf3 BK418
  go_upto_if 21 with (first | ((with_reducible refine gate_callee (f := 13) rfl ?_); refine Xgo 19 Try.func13 #[.agg #[.int .i64 a1_0, .int .i64 a1_1, .slice A1_2 l1_2.length c1_2], .int .i64 t419] ?_; (with_reducible refine (laws_szDoc.calls k a1_0 a1_1 _ _ l1_2 t419 t420 _ ?side1 ?side2 A9.out).mono ?_); (case side1 => exact Xc HR1_2); (case side2 => exact HC1_2.out); rintro e w12 ⟨rfl, hb⟩; refine ⟨_, rfl, ?_⟩; replace BK418 := Xbb BK418 hb; replace HB := Aside0.mk (below_step Xi hb); clear hb))
  have H := HC10.out
  clear HC10
  obtain ⟨c13b0, H⟩ | ⟨c13b0, H⟩ := Xit H
  ·(first | rw [c13b0] | (simp only [i64_w, i32_w]; rw [c13b0]) | skip)
   go_wp2
   go_ret
   exact ⟨Xe, Xi⟩
  ·(first | rw [c13b0] | (simp only [i64_w, i32_w]; rw [c13b0]) | skip)
   obtain ⟨t421, A14, H⟩ := Xbi H
   (try dsimp only at H)
   replace H := Option.bind_eq_some_iff.mp H
   obtain ⟨⟨t424, t425, t426⟩, A150, H⟩ := H
   (try dsimp only at H)
   have A15 := Aside0.mk A150
   clear A150
   obtain ⟨t429, A16, H⟩ := Xbi H
   (try dsimp only at H)
   obtain ⟨t430, A17, H⟩ := Xbi H
   (try dsimp only at H)
   replace H := Option.bind_eq_some_iff.mp H
   obtain ⟨⟨t433, t434, t435⟩, A180, H⟩ := H
   (try dsimp only at H)
   have A18 := Aside0.mk A180
   clear A180
   obtain ⟨t439, A19, H⟩ := Xbi H
   (try dsimp only at H)
   have HC20 := Aside0.mk H
   clear H
   try go_wp2_with (fail)
   replace BK418 := Aside0.mk (blk_drew BK418.out)
   replace HB := Aside0.mk (below_drew1 HB.out)
   refine start_ (n := 7) (S := fun w' => w'.cell? ⟨gb418, 0, none⟩ = some (.int .i64 a1_0) ∧ w'.cell? ⟨gb418, 1, none⟩ = some (.int .i64 a1_1) ∧ w'.cell? ⟨gb418, 2, none⟩ = some (.slice A1_2 l1_2.length c1_2)) (ds := []) #[false, false, false, false, false, false, false] (by kernel_rfl) rfl rfl ⟨(blk_cell BK418.out 0).trans rfl, (blk_cell BK418.out 1).trans rfl, (blk_cell BK418.out 2).trans rfl⟩ (fun hHeld => ?_)
   generalize w12.drew = w21 at BK418 HB hHeld ⊢
   refine pure_ (i := 0) (N := some 22) (v := ?_) (a' := ?_) (XW.bs 7 1) rfl rfl (by kernel_rfl) (fun _ _ _ h => h) (Or.inl ⟨by rfl, ?_⟩) ?_ ?_
   rotate_left
   ·intro w'
    go_simp
    with_reducible rfl
   rotate_left
   ·simp only [XW.q0, XW.q1, XW.q2, i64_w, i32_w]
    rfl
   refine pure_ (i := 4) (N := some 26) (v := ?_) (a' := ?_) (XW.bs 7 17) rfl rfl (by kernel_rfl) (fun _ _ _ h => h) (Or.inl ⟨by rfl, ?_⟩) ?_ ?_
   rotate_left
   ·intro w'
    go_simp
    with_reducible rfl
   rotate_left
   ·simp only [XW.q0, XW.q1, XW.q2, i64_w, i32_w]
    rfl
   refine take_ (i := 2) (N := some 24) (v := ?_) (a' := ?_) (XW.bs 7 21) rfl rfl (by kernel_rfl) (fun _ _ _ h => h) (Or.inl ⟨by rfl, ?_⟩) hHeld ?_ ?_
   rotate_left
   ·rintro w' ⟨s0, s1, s2⟩
    go_simp
    with_reducible rfl
   rotate_left
   ·simp only [XW.q0, XW.q1, XW.q2, i64_w, i32_w]
    rfl
   refine one_ (i := 1) (N := some 23) (XW.bs 7 23) rfl rfl (by kernel_rfl) (by decide) (fun K hK => ?_)
   refine goes_ Try.func39 (by kernel_rfl) rfl #[.slice A0 l0.length c0] (by rfl) rfl rfl (by (try simp only [List.map_toArray, List.map_cons, List.map_nil]); first | done | rfl | (simp only [List.length_drop, List.length_take]; rfl)) ?_
   with_reducible refine (laws_toRuleS.calls k _ _ l0 t421 _ ?side1 ?side2 A14.out).mono ?_
   (case side1 => exact Xc HR0)
   (case side2 => exact HC0.out)
   rintro e w22 ⟨v422, rfl, ho0, hb⟩
   refine ⟨_, rfl, ?_⟩
   have HO423 := Aside0.mk (Kd.R_lower ho0 (below_size Xi))
   replace BK418 := Xbb BK418 hb
   replace HB := Aside0.mk (below_step Xi hb)
   (try clear hb)
   (try clear hb2)
   (try clear hk)
   (try clear hi)
   (try clear ho0)
   refine hK.out _ _ ⟨(blk_cell BK418.out 0).trans rfl, (blk_cell BK418.out 1).trans rfl, (blk_cell BK418.out 2).trans rfl⟩ (fun hHeld => ?_)
   clear hK K
   refine Xno ?_
   refine one_ (i := 3) (N := some 25) (XW.bs 7 31) rfl rfl (by kernel_rfl) (by decide) (fun K hK => ?_)
   refine goes_ Try.func15 (by kernel_rfl) rfl #[.agg #[.int .i64 a1_0, .int .i64 a1_1, .slice A1_2 l1_2.length c1_2]] (by rfl) rfl rfl (by (try simp only [List.map_toArray, List.map_cons, List.map_nil]); first | done | rfl | (simp only [List.length_drop, List.length_take]; rfl)) ?_
   with_reducible refine (laws_toDoc.calls k a1_0 a1_1 _ _ l1_2 t424 t425 t426 _ ?side1 ?side2 A15.out).mono ?_
   (case side1 => exact Xc HR1_2)
   (case side2 => exact HC1_2.out)
   rintro e w23 ⟨v427, rfl, ho0, hb⟩
   refine ⟨_, rfl, ?_⟩
   replace HO423 := Aside0.mk (Kd.R_below (Xq HO423) hb)
   have HO428 := Aside0.mk (Kd.S_lower ho0 (below_size Xi))
   replace BK418 := Xbb BK418 hb
   replace HB := Aside0.mk (below_step Xi hb)
   (try clear hb)
   (try clear hb2)
   (try clear hk)
   (try clear hi)
   (try clear ho0)
   obtain ⟨Ao24, co24, eo24⟩ := Kd.R_slice HO423.out
   (first | subst eo24 | (injection eo24 with f1_ f2_ f3_; have f4_ := f1_.symm; have f5_ := f3_.symm; clear f1_ f2_ f3_; subst f4_; subst f5_))
   obtain ⟨Ao25, co25, eo25⟩ := Kd.S_slice HO428.out
   (first | subst eo25 | (injection eo25 with f1_ f2_ f3_; have f4_ := f1_.symm; have f5_ := f3_.symm; clear f1_ f2_ f3_; subst f4_; subst f5_))
   refine hK.out _ _ ⟨(blk_cell BK418.out 0).trans rfl, (blk_cell BK418.out 1).trans rfl, (blk_cell BK418.out 2).trans rfl⟩ (fun hHeld => ?_)
   clear hK K
   refine Xno ?_
   refine one_ (i := 5) (N := some 27) (XW.bs 7 63) rfl rfl (by kernel_rfl) (by decide) (fun K hK => ?_)
   refine goes_ Try.func38 (by kernel_rfl) rfl #[.slice Ao24 t421.length co24, .agg #[.int .i64 t424, .int .i64 t425, .slice Ao25 t426.length co25], .int .i64 a2] (by rfl) rfl rfl (by (try simp only [List.map_toArray, List.map_cons, List.map_nil]); first | done | rfl | (simp only [List.length_drop, List.length_take]; rfl)) ?_
   with_reducible refine (spec_CheckNode.calls k _ _ t421 t424 t425 _ _ t426 a2 t429 _ ?side1 ?side2 ?side3 ?side4 A16.out).mono ?_
   (case side1 => repeat (first | exact (Kd.R_reads' HO423.out).2.2 | (with_reducible first | refine Kd.C_alloc ?_ _ | refine Kd.C_drewN ?_ _ | refine Kd.C_drew ?_)))
   (case side2 => exact (Kd.R_reads' HO423.out).2.1)
   (case side3 => repeat (first | exact (Kd.S_reads' HO428.out).2.2 | (with_reducible first | refine Kd.C_alloc ?_ _ | refine Kd.C_drewN ?_ _ | refine Kd.C_drew ?_)))
   (case side4 => exact (Kd.S_reads' HO428.out).2.1)
   rintro e w26 ⟨rfl, hb⟩
   refine ⟨_, rfl, ?_⟩
   replace HO423 := Aside0.mk (Kd.R_below (Xq HO423) hb)
   replace HO428 := Aside0.mk (Kd.S_below (Xq HO428) hb)
   replace BK418 := Xbb BK418 hb
   replace HB := Aside0.mk (below_step Xi hb)
   (try clear hb)
   (try clear hb2)
   (try clear hk)
   (try clear hi)
   refine hK.out _ _ ⟨(blk_cell BK418.out 0).trans rfl, (blk_cell BK418.out 1).trans rfl, (blk_cell BK418.out 2).trans rfl⟩ (fun hHeld => ?_)
   clear hK K
   refine Xno ?_
   refine pure_ (i := 6) (N := some 8) (v := ?_) (a' := ?_) (XW.bs 7 127) rfl rfl (by kernel_rfl) (fun _ _ _ h => h) (Or.inl ⟨by rfl, ?_⟩) ?_ ?_
   rotate_left
   ·intro w'
    go_simp
    with_reducible rfl
   rotate_left
   ·simp only [XW.q0, XW.q1, XW.q2, i64_w, i32_w]
    rfl
   refine done_ (by kernel_rfl) ?_
   go_upto_if 38 with (first | ((with_reducible refine gate_callee (f := 39) rfl ?_); refine Xgo 29 Try.func39 #[.slice A0 l0.length c0] ?_; (with_reducible refine (laws_toRuleS.calls k _ _ l0 t430 _ ?side1 ?side2 A17.out).mono ?_); (case side1 => exact Xc HR0); (case side2 => exact HC0.out); rintro e w27 ⟨v431, rfl, ho0, hb⟩; refine ⟨_, rfl, ?_⟩; replace HO428 := Aside0.mk (Kd.S_below (Xq HO428) hb); have HO432 := Aside0.mk (Kd.R_lower (Kd.R_new' ho0 (Kd.R_lt (Xq HO423))) (below_size Xi)); replace HO423 := Aside0.mk (Kd.R_elder' (Xq HO423) (Kd.R_base ho0) hb); replace BK418 := Xbb BK418 hb; replace HB := Aside0.mk (below_step Xi hb); clear hb; (try clear ho0); obtain ⟨hcz28_0, hcz28_1, hcz28_2⟩ := Xc3 BK418; obtain ⟨hfz28_0, hfz28_1, hfz28_2⟩ := Xf3 BK418) | ((with_reducible refine gate_callee (f := 15) rfl ?_); refine Xgo 31 Try.func15 #[.agg #[.int .i64 a1_0, .int .i64 a1_1, .slice A1_2 l1_2.length c1_2]] ?_; (with_reducible refine (laws_toDoc.calls k a1_0 a1_1 _ _ l1_2 t433 t434 t435 _ ?side1 ?side2 A18.out).mono ?_); (case side1 => exact Xc HR1_2); (case side2 => exact HC1_2.out); rintro e w29 ⟨v436, rfl, ho0, hb⟩; refine ⟨_, rfl, ?_⟩; replace HO423 := Aside0.mk (Kd.R_below (Xq HO423) hb); replace HO432 := Aside0.mk (Kd.R_below (Xq HO432) hb); have HO437 := Aside0.mk (Kd.S_lower (Kd.S_new' ho0 (Kd.S_lt (Xq HO428))) (below_size Xi)); replace HO428 := Aside0.mk (Kd.S_elder' (Xq HO428) (Kd.S_base ho0) hb); replace BK418 := Xbb BK418 hb; replace HB := Aside0.mk (below_step Xi hb); clear hb; (try clear ho0)) | ((with_reducible refine gate_dst (N := 10) rfl ?_); refine Xbox 10 #[.int .i64 0, .int .i64 0, .slice none 0 0] 29 ?_; intro gb438 hg w30 hbox hb; replace HO423 := Aside0.mk (Kd.R_below (Xq HO423) hb); replace HO428 := Aside0.mk (Kd.S_below (Xq HO428) hb); replace HO432 := Aside0.mk (Kd.R_below (Xq HO432) hb); replace HO437 := Aside0.mk (Kd.S_below (Xq HO437) hb); have BK438 := Aside0.mk (hbox); have GE438 := Xge hg Xi; replace HB := Aside0.mk (below_step Xi hb); have NB418_438 := Xnb hg BK418; have NB438_418 := Xns NB418_438; replace BK418 := Xbb BK418 hb; clear hb hbox hg; have hnb31 := NB438_418.out; have hnc31 := NB418_438.out; obtain ⟨hcz32_0, hcz32_1, hcz32_2⟩ := Xc3 BK438; obtain ⟨hfz32_0, hfz32_1, hfz32_2⟩ := Xf3 BK438; obtain ⟨Ao33, co33, eo33⟩ := Kd.S_slice HO437.out; subst eo33) | ((with_reducible refine gate_store (t := 29) (p := 10) rfl ?_); refine store_event (t := 29) (p := 10) (v := ?vo_w34) (w1 := (((w30.setCell ⟨gb438, 0, none⟩ (.int .i64 t433)).setCell ⟨gb438, 1, none⟩ (.int .i64 t434)).setCell ⟨gb438, 2, none⟩ (.slice Ao33 t435.length co33))) ?hg ?ho ?hn ?hr ?_; (case ho => rfl); (case hg => rfl); (case hn => rfl); (case hr => first | (go_simp; done) | (go_simp; rfl)); intro w34 hw; have n0_ : Aside0 (Kd.R k95 95 w34 w.heap.size (fun k_ => some k_ ≠ (v431 : Value).ownBlock) (.slice Ao24 t421.length co24) t421) := ⟨(by rw [hw]; exact (by (with_reducible repeat (first | apply Kd.R_alloc | apply Kd.R_drewN | apply Kd.R_drew)); exact Kd.R_mono (Kd.R_far (p := ⟨gb438, 2, none⟩) (Kd.R_far (p := ⟨gb438, 1, none⟩) (Kd.R_far (p := ⟨gb438, 0, none⟩) (Kd.R_types HO423.out BK438.out (by decide)) (fun _ hk => hk.2) (.int .i64 t433)) (fun _ hk => hk.2) (.int .i64 t434)) (fun _ hk => hk.2) (.slice Ao33 t435.length co33)) (fun _ hk => hk.1.2)))⟩; have n1_ : Aside0 (Kd.S k43 43 w34 w.heap.size (fun k_ => some k_ ≠ (.slice Ao33 t435.length co33 : Value).ownBlock) (.slice Ao25 t426.length co25) t426) := ⟨(by rw [hw]; exact (by (with_reducible repeat (first | apply Kd.S_alloc | apply Kd.S_drewN | apply Kd.S_drew)); exact Kd.S_mono (Kd.S_far (p := ⟨gb438, 2, none⟩) (Kd.S_far (p := ⟨gb438, 1, none⟩) (Kd.S_far (p := ⟨gb438, 0, none⟩) (Kd.S_types HO428.out BK438.out (by decide)) (fun _ hk => hk.2) (.int .i64 t433)) (fun _ hk => hk.2) (.int .i64 t434)) (fun _ hk => hk.2) (.slice Ao33 t435.length co33)) (fun _ hk => hk.1.2)))⟩; have n2_ : Aside0 (Kd.R k95 95 w34 w.heap.size (fun k_ => some k_ ≠ (.slice Ao24 t421.length co24 : Value).ownBlock) v431 t430) := ⟨(by rw [hw]; exact (by (with_reducible repeat (first | apply Kd.R_alloc | apply Kd.R_drewN | apply Kd.R_drew)); exact Kd.R_mono (Kd.R_far (p := ⟨gb438, 2, none⟩) (Kd.R_far (p := ⟨gb438, 1, none⟩) (Kd.R_far (p := ⟨gb438, 0, none⟩) (Kd.R_types HO432.out BK438.out (by decide)) (fun _ hk => hk.2) (.int .i64 t433)) (fun _ hk => hk.2) (.int .i64 t434)) (fun _ hk => hk.2) (.slice Ao33 t435.length co33)) (fun _ hk => hk.1.2)))⟩; have n3_ : Aside0 (Kd.S k43 43 w34 w.heap.size (fun k_ => some k_ ≠ (.slice Ao25 t426.length co25 : Value).ownBlock) (.slice Ao33 t435.length co33) t435) := ⟨(by rw [hw]; exact (by (with_reducible repeat (first | apply Kd.S_alloc | apply Kd.S_drewN | apply Kd.S_drew)); exact Kd.S_mono (Kd.S_far (p := ⟨gb438, 2, none⟩) (Kd.S_far (p := ⟨gb438, 1, none⟩) (Kd.S_far (p := ⟨gb438, 0, none⟩) (Kd.S_types HO437.out BK438.out (by decide)) (fun _ hk => hk.2) (.int .i64 t433)) (fun _ hk => hk.2) (.int .i64 t434)) (fun _ hk => hk.2) (.slice Ao33 t435.length co33)) (fun _ hk => hk.1.2)))⟩; have n4_ : Aside0 (w34.heap[gb418]? = some (.cells #[.int .i64 a1_0, .int .i64 a1_1, .slice A1_2 l1_2.length c1_2] 24 (0, 0))) := ⟨(by rw [hw]; exact (by (with_reducible repeat (first | refine blk_drewN ?_ _ | refine blk_drew ?_ | refine blk_alloc ?_ _)); refine blk_far ?_ NB418_438.out _; (with_reducible repeat (first | refine blk_drewN ?_ _ | refine blk_drew ?_ | refine blk_alloc ?_ _)); refine blk_far ?_ NB418_438.out _; (with_reducible repeat (first | refine blk_drewN ?_ _ | refine blk_drew ?_ | refine blk_alloc ?_ _)); refine blk_far ?_ NB418_438.out _; (with_reducible repeat (first | refine blk_drewN ?_ _ | refine blk_drew ?_ | refine blk_alloc ?_ _)); exact BK418.out))⟩; have n5_ : Aside0 (w34.heap[gb438]? = some (.cells #[.int .i64 t433, .int .i64 t434, .slice Ao33 t435.length co33] 29 (0, 0))) := ⟨(by rw [hw]; exact (by (with_reducible repeat (first | refine blk_drewN ?_ _ | refine blk_drew ?_ | refine blk_alloc ?_ _)); refine blk_put (cs := #[.int .i64 t433, .int .i64 t434, .slice none 0 0]) ?_ 2 _ rfl; (with_reducible repeat (first | refine blk_drewN ?_ _ | refine blk_drew ?_ | refine blk_alloc ?_ _)); refine blk_put (cs := #[.int .i64 t433, .int .i64 0, .slice none 0 0]) ?_ 1 _ rfl; (with_reducible repeat (first | refine blk_drewN ?_ _ | refine blk_drew ?_ | refine blk_alloc ?_ _)); refine blk_put (cs := #[.int .i64 0, .int .i64 0, .slice none 0 0]) ?_ 0 _ rfl; (with_reducible repeat (first | refine blk_drewN ?_ _ | refine blk_drew ?_ | refine blk_alloc ?_ _)); exact BK438.out))⟩; have n6_ : Aside0 (Below w.heap.size w w34) := ⟨(by rw [hw]; exact Xi)⟩; clear hw; clear HO423; clear HO428; clear HO432; clear HO437; clear BK418; clear BK438; clear HB; have HO423 := n0_; have HO428 := n1_; have HO432 := n2_; have HO437 := n3_; have BK418 := n4_; have BK438 := n5_; have HB := n6_; clear n0_ n1_ n2_ n3_ n4_ n5_ n6_; obtain ⟨hcz35_0, hcz35_1, hcz35_2⟩ := Xc3 BK438; obtain ⟨hfz35_0, hfz35_1, hfz35_2⟩ := Xf3 BK438; obtain ⟨Ao36, co36, eo36⟩ := Kd.R_slice HO432.out; subst eo36) | ((with_reducible refine gate_callee (f := 40) rfl ?_); refine Xgo 35 Try.func40 #[.slice Ao36 t430.length co36, .agg #[.int .i64 t433, .int .i64 t434, .slice Ao33 t435.length co33], .int .i64 a2] ?_; (with_reducible refine (impl_CheckNode.calls k _ _ t430 t433 t434 _ _ t435 a2 t439 _ ?side1 ?side2 ?side3 ?side4 A19.out).mono ?_); (case side1 => repeat (first | exact (Kd.R_reads' HO432.out).2.2 | (with_reducible first | refine Kd.C_alloc ?_ _ | refine Kd.C_drewN ?_ _ | refine Kd.C_drew ?_))); (case side2 => exact (Kd.R_reads' HO432.out).2.1); (case side3 => repeat (first | exact (Kd.S_reads' HO437.out).2.2 | (with_reducible first | refine Kd.C_alloc ?_ _ | refine Kd.C_drewN ?_ _ | refine Kd.C_drew ?_))); (case side4 => exact (Kd.S_reads' HO437.out).2.1); rintro e w37 ⟨rfl, hb⟩; refine ⟨_, rfl, ?_⟩; replace HO423 := Aside0.mk (Kd.R_below (Xq HO423) hb); replace HO428 := Aside0.mk (Kd.S_below (Xq HO428) hb); replace HO432 := Aside0.mk (Kd.R_below (Xq HO432) hb); replace HO437 := Aside0.mk (Kd.S_below (Xq HO437) hb); replace BK418 := Xbb BK418 hb; replace BK438 := Xbb BK438 hb; replace HB := Aside0.mk (below_step Xi hb); clear hb))
   have H := HC20.out
   clear HC20
   obtain ⟨c38, H⟩ | ⟨c38, H⟩ := Xiu H
   ·have c38b0 : (t439 == t429) = true := beq_iff_eq.mpr c38
    have c38b1 : (t439 != t429) = false := bne_eq_false_iff_eq.mpr c38
    clear c38
    (first | rw [c38b0] | (simp only [i64_w, i32_w]; rw [c38b0]) | skip)
    obtain ⟨t440, A39, H⟩ := Xbi H
    (try dsimp only at H)
    obtain ⟨t443, A40, H⟩ := Xbi H
    (try dsimp only at H)
    have HC41 := Aside0.mk H
    clear H
    go_upto_if 43 with (first | ((with_reducible refine gate_callee (f := 39) rfl ?_); refine Xgo 41 Try.func39 #[.slice A0 l0.length c0] ?_; (with_reducible refine (laws_toRuleS.calls k _ _ l0 t440 _ ?side1 ?side2 A39.out).mono ?_); (case side1 => exact Xc HR0); (case side2 => exact HC0.out); rintro e w42 ⟨v441, rfl, ho0, hb⟩; refine ⟨_, rfl, ?_⟩; replace HO428 := Aside0.mk (Kd.S_below (Xq HO428) hb); replace HO437 := Aside0.mk (Kd.S_below (Xq HO437) hb); have HO442 := Aside0.mk (Kd.R_lower (Kd.R_new' (Kd.R_new' ho0 (Kd.R_lt (Xq HO423))) (Kd.R_lt (Xq HO432))) (below_size Xi)); replace HO423 := Aside0.mk (Kd.R_elder' (Xq HO423) (Kd.R_base ho0) hb); replace HO432 := Aside0.mk (Kd.R_elder' (Xq HO432) (Kd.R_base ho0) hb); replace BK418 := Xbb BK418 hb; replace BK438 := Xbb BK438 hb; replace HB := Aside0.mk (below_step Xi hb); clear hb; (try clear ho0); obtain ⟨Ao43, co43, eo43⟩ := Kd.R_slice HO442.out; subst eo43) | ((with_reducible refine gate_callee (f := 41) rfl ?_); refine Xgo 42 Try.func41 #[.slice Ao36 t430.length co36, .slice Ao43 t440.length co43] ?_; (with_reducible refine (laws_eqRuleS.calls k _ _ t430 _ _ t440 t443 _ ?side1 ?side2 ?side3 ?side4 A40.out).mono ?_); (case side1 => repeat (first | exact (Kd.R_reads' HO432.out).2.2 | (with_reducible first | refine Kd.C_alloc ?_ _ | refine Kd.C_drewN ?_ _ | refine Kd.C_drew ?_))); (case side2 => exact (Kd.R_reads' HO432.out).2.1); (case side3 => repeat (first | exact (Kd.R_reads' HO442.out).2.2 | (with_reducible first | refine Kd.C_alloc ?_ _ | refine Kd.C_drewN ?_ _ | refine Kd.C_drew ?_))); (case side4 => exact (Kd.R_reads' HO442.out).2.1); rintro e w44 ⟨rfl, hb⟩; refine ⟨_, rfl, ?_⟩; replace HO423 := Aside0.mk (Kd.R_below (Xq HO423) hb); replace HO428 := Aside0.mk (Kd.S_below (Xq HO428) hb); replace HO432 := Aside0.mk (Kd.R_below (Xq HO432) hb); replace HO437 := Aside0.mk (Kd.S_below (Xq HO437) hb); replace HO442 := Aside0.mk (Kd.R_below (Xq HO442) hb); replace BK418 := Xbb BK418 hb; replace BK438 := Xbb BK438 hb; replace HB := Aside0.mk (below_step Xi hb); clear hb))
    have H := HC41.out
    clear HC41
    by_cases c45 : t443 = true
    ·subst c45
     (first | rw [if_pos rfl] at H | skip)
     replace H := Option.bind_eq_some_iff.mp H
     obtain ⟨⟨t444, t445, t446⟩, A460, H⟩ := H
     (try dsimp only at H)
     have A46 := Aside0.mk A460
     clear A460
     obtain ⟨t449, A47, H⟩ := Xbi H
     (try dsimp only at H)
     have HC48 := Aside0.mk H
     clear H
     try go_wp2_with (fail)
     replace HO423 := Aside0.mk (Kd.R_drew HO423.out)
     replace HO428 := Aside0.mk (Kd.S_drew HO428.out)
     replace HO432 := Aside0.mk (Kd.R_drew HO432.out)
     replace HO437 := Aside0.mk (Kd.S_drew HO437.out)
     replace HO442 := Aside0.mk (Kd.R_drew HO442.out)
     replace BK418 := Aside0.mk (blk_drew BK418.out)
     replace BK438 := Aside0.mk (blk_drew BK438.out)
     replace HB := Aside0.mk (below_drew1 HB.out)
     refine start_ (n := 5) (S := fun w' => w'.cell? ⟨gb438, 0, none⟩ = some (.int .i64 t433) ∧ w'.cell? ⟨gb438, 1, none⟩ = some (.int .i64 t434) ∧ w'.cell? ⟨gb438, 2, none⟩ = some (.slice Ao33 t435.length co33) ∧ w'.cell? ⟨gb418, 0, none⟩ = some (.int .i64 a1_0) ∧ w'.cell? ⟨gb418, 1, none⟩ = some (.int .i64 a1_1) ∧ w'.cell? ⟨gb418, 2, none⟩ = some (.slice A1_2 l1_2.length c1_2)) (ds := []) #[false, false, false, false, false] (by kernel_rfl) rfl rfl ⟨(blk_cell BK438.out 0).trans rfl, (blk_cell BK438.out 1).trans rfl, (blk_cell BK438.out 2).trans rfl, (blk_cell BK418.out 0).trans rfl, (blk_cell BK418.out 1).trans rfl, (blk_cell BK418.out 2).trans rfl⟩ (fun hHeld => ?_)
     generalize w44.drew = w49 at HO423 HO428 HO432 HO437 HO442 BK418 BK438 HB hHeld ⊢
     refine take_ (i := 0) (N := some 44) (v := ?_) (a' := ?_) #[true, false, false, false, false] rfl rfl (by kernel_rfl) (fun _ _ _ h => h) (Or.inl ⟨by rfl, ?_⟩) hHeld ?_ ?_
     rotate_left
     ·rintro w' ⟨s0, s1, s2, s3, s4, s5⟩
      go_simp
      with_reducible rfl
     rotate_left
     ·simp only [XW.q0, XW.q1, XW.q2, i64_w, i32_w]
      rfl
     refine take_ (i := 1) (N := some 45) (v := ?_) (a' := ?_) #[true, true, false, false, false] rfl rfl (by kernel_rfl) (fun _ _ _ h => h) (Or.inl ⟨by rfl, ?_⟩) hHeld ?_ ?_
     rotate_left
     ·rintro w' ⟨s0, s1, s2, s3, s4, s5⟩
      go_simp
      with_reducible rfl
     rotate_left
     ·simp only [XW.q0, XW.q1, XW.q2, i64_w, i32_w]
      rfl
     refine one_ (i := 2) (N := some 46) #[true, true, true, false, false] rfl rfl (by kernel_rfl) (by decide) (fun K hK => ?_)
     refine goes_ Try.func15 (by kernel_rfl) rfl #[.agg #[.int .i64 a1_0, .int .i64 a1_1, .slice A1_2 l1_2.length c1_2]] (by rfl) rfl rfl (by (try simp only [List.map_toArray, List.map_cons, List.map_nil]); first | done | rfl | (simp only [List.length_drop, List.length_take]; rfl)) ?_
     with_reducible refine (laws_toDoc.calls k a1_0 a1_1 _ _ l1_2 t444 t445 t446 _ ?side1 ?side2 A46.out).mono ?_
     (case side1 => exact Xc HR1_2)
     (case side2 => exact HC1_2.out)
     rintro e w50 ⟨v447, rfl, ho0, hb⟩
     refine ⟨_, rfl, ?_⟩
     replace HO423 := Aside0.mk (Kd.R_below (Xq HO423) hb)
     replace HO432 := Aside0.mk (Kd.R_below (Xq HO432) hb)
     replace HO442 := Aside0.mk (Kd.R_below (Xq HO442) hb)
     have HO448 := Aside0.mk (Kd.S_lower (Kd.S_new' (Kd.S_new' ho0 (Kd.S_lt (Xq HO428))) (Kd.S_lt (Xq HO437))) (below_size Xi))
     replace HO428 := Aside0.mk (Kd.S_elder' (Xq HO428) (Kd.S_base ho0) hb)
     replace HO437 := Aside0.mk (Kd.S_elder' (Xq HO437) (Kd.S_base ho0) hb)
     replace BK418 := Xbb BK418 hb
     replace BK438 := Xbb BK438 hb
     replace HB := Aside0.mk (below_step Xi hb)
     (try clear hb)
     (try clear hb2)
     (try clear hk)
     (try clear hi)
     (try clear ho0)
     obtain ⟨Ao51, co51, eo51⟩ := Kd.S_slice HO448.out
     (first | subst eo51 | (injection eo51 with f1_ f2_ f3_; have f4_ := f1_.symm; have f5_ := f3_.symm; clear f1_ f2_ f3_; subst f4_; subst f5_))
     refine hK.out _ _ ⟨(blk_cell BK438.out 0).trans rfl, (blk_cell BK438.out 1).trans rfl, (blk_cell BK438.out 2).trans rfl, (blk_cell BK418.out 0).trans rfl, (blk_cell BK418.out 1).trans rfl, (blk_cell BK418.out 2).trans rfl⟩ (fun hHeld => ?_)
     clear hK K
     refine Xno ?_
     refine one_ (i := 3) (N := some 47) #[true, true, true, true, false] rfl rfl (by kernel_rfl) (by decide) (fun K hK => ?_)
     refine goes_ Try.func17 (by kernel_rfl) rfl #[.agg #[.int .i64 t433, .int .i64 t434, .slice Ao33 t435.length co33], .agg #[.int .i64 t444, .int .i64 t445, .slice Ao51 t446.length co51]] (by rfl) rfl rfl (by (try simp only [List.map_toArray, List.map_cons, List.map_nil]); first | done | rfl | (simp only [List.length_drop, List.length_take]; rfl)) ?_
     with_reducible refine (laws_eqDoc.calls k t433 t434 _ _ t435 t444 t445 _ _ t446 t449 _ ?side1 ?side2 ?side3 ?side4 A47.out).mono ?_
     (case side1 => repeat (first | exact (Kd.S_reads' HO437.out).2.2 | (with_reducible first | refine Kd.C_alloc ?_ _ | refine Kd.C_drewN ?_ _ | refine Kd.C_drew ?_)))
     (case side2 => exact (Kd.S_reads' HO437.out).2.1)
     (case side3 => repeat (first | exact (Kd.S_reads' HO448.out).2.2 | (with_reducible first | refine Kd.C_alloc ?_ _ | refine Kd.C_drewN ?_ _ | refine Kd.C_drew ?_)))
     (case side4 => exact (Kd.S_reads' HO448.out).2.1)
     rintro e w52 ⟨rfl, hb⟩
     refine ⟨_, rfl, ?_⟩
     replace HO423 := Aside0.mk (Kd.R_below (Xq HO423) hb)
     replace HO428 := Aside0.mk (Kd.S_below (Xq HO428) hb)
     replace HO432 := Aside0.mk (Kd.R_below (Xq HO432) hb)
     replace HO437 := Aside0.mk (Kd.S_below (Xq HO437) hb)
     replace HO442 := Aside0.mk (Kd.R_below (Xq HO442) hb)
     replace HO448 := Aside0.mk (Kd.S_below (Xq HO448) hb)
     replace BK418 := Xbb BK418 hb
     replace BK438 := Xbb BK438 hb
     replace HB := Aside0.mk (below_step Xi hb)
     (try clear hb)
     (try clear hb2)
     (try clear hk)
     (try clear hi)
     refine hK.out _ _ ⟨(blk_cell BK438.out 0).trans rfl, (blk_cell BK438.out 1).trans rfl, (blk_cell BK438.out 2).trans rfl, (blk_cell BK418.out 0).trans rfl, (blk_cell BK418.out 1).trans rfl, (blk_cell BK418.out 2).trans rfl⟩ (fun hHeld => ?_)
     clear hK K
     refine Xno ?_
     refine pure_ (i := 4) (N := some 48) (v := ?_) (a' := ?_) #[true, true, true, true, true] rfl rfl (by kernel_rfl) (fun _ _ _ h => h) (Or.inl ⟨by rfl, ?_⟩) ?_ ?_
     rotate_left
     ·intro w'
      go_simp
      with_reducible rfl
     rotate_left
     ·simp only [XW.q0, XW.q1, XW.q2, i64_w, i32_w]
      rfl
     refine done_ (by kernel_rfl) ?_
     go_upto_if 48 with (fail)
     have H := HC48.out
     clear HC48
     by_cases c53 : t449 = true
     ·subst c53
      (first | rw [if_pos rfl] at H | skip)
      go_wp2
      go_ret
      exact ⟨Xe, Xi⟩
     ·replace c53 := Bool.eq_false_iff.mpr c53
      subst c53
      (first | rw [if_neg (show ¬ (false = true) by decide)] at H | skip)
      cases H
    ·replace c45 := Bool.eq_false_iff.mpr c45
     subst c45
     (first | rw [if_neg (show ¬ (false = true) by decide)] at H | skip)
     cases H
   ·have c38b0 : (t439 == t429) = false := beq_eq_false_iff_ne.mpr c38
    have c38b1 : (t439 != t429) = true := bne_iff_ne.mpr c38
    (first | rw [c38b0] | (simp only [i64_w, i32_w]; rw [c38b0]) | skip)
    cases H

end Go.Proofs.Ytpdhccdmbdbdpaa.XA
