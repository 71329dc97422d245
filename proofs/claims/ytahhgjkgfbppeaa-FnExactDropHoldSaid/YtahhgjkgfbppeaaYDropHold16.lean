/- Contracts of the program's functions: each Go function that is named below comes to what its Lean function says. Written by xprint.py (a program of this session's, over the kit's print). Conditions: each contract's own premises. -/
import Derived.Test.YtahhgjkgfbppeaaYDropHold0
import Derived.Test.YtahhgjkgfbppeaaYDropHold1
import Derived.Test.YtahhgjkgfbppeaaYDropHold6
import Derived.Test.YtahhgjkgfbppeaaYDropHold7
import Derived.Test.YtahhgjkgfbppeaaYDropHold13
import Derived.Test.YtahhgjkgfbppeaaYDropHold14
import Derived.Test.YtahhgjkgfbppeaaYDropHold15
import Derived.Test.YtahhgjkgfbppeaaYDropHoldMarkDoc
namespace Go.Proofs.Ytahhgjkgfbppeaa.XA
open Go.RowKit Go.Proofs.YtahhgjkgfbppeaaW.PrintWords Go.Proofs.YtahhgjkgfbppeaaW.PrintLast Go.Proofs.YtahhgjkgfbppeaaW.PrintMore XW
attribute [local go_sem] max2_int min2_int max_two min_two max_three min_three max_four min_four   -- for this text's walks alone
set_option linter.unusedVariables false
set_option linter.unusedSimpArgs false

/-! ### laws_FnExactDropHold: function 3 -/
mutual
def laws_FnExactDropHold.j0 : Nat → List (S42) → Int → Int → List (S44) → Int → List (S44) → List (S44) → Int → Bool → Int → Int → List (S153) → Int → Int → List (S73) → Option (Bool)
 | 0, _, _, _, _, _, _, _, _, _, _, _, _, _, _, _ => none
 | k + 1, x1, x2, x3, x10, x11, x13, x14, x15, x61, x382000, x382001, x382002, x402000, x402001, x402002 => if x61 = true then (some false) else ((laws_toDoc.f k x382000 x382001 x382002).bind fun bt410 => ((laws_eqDoc.f k x402000 x402001 x402002 bt410.1 bt410.2.1 bt410.2.2).bind fun t415 => (if t415 = true then ((laws_toHoldS.f k x1).bind fun t416 => ((laws_eqHoldS.f k x13 t416).bind fun t419 => (if t419 = true then ((laws_markDoc.f k x402000 x402001 x402002 1).bind fun bt420 => ((laws_markHoldS.f k x13 bt420.1).bind fun bt422 => (if bt422.1 < 0 then (laws_FnExactDropHold.j1 k x1 x2 x3 x10 x11 x14 true x382000 x382001 x382002) else ((laws_eqHoldS.f k x14 x10).bind fun t424 => (if t424 = true then (laws_FnExactDropHold.j1 k x1 x2 x3 x10 x11 x14 (x15 != x11) x382000 x382001 x382002) else (laws_FnExactDropHold.j1 k x1 x2 x3 x10 x11 x14 true x382000 x382001 x382002)))))) else (some false)))) else (some false))))
def laws_FnExactDropHold.j1 : Nat → List (S42) → Int → Int → List (S44) → Int → List (S44) → Bool → Int → Int → List (S153) → Option (Bool)
 | 0, _, _, _, _, _, _, _, _, _, _ => none
 | k + 1, x1, x2, x3, x10, x11, x14, x90, x382000, x382001, x382002 => if x90 = true then (some false) else ((laws_markHoldS.f k x14 1).bind fun bt425 => ((laws_heldHoldS.f k bt425.2 1).bind fun t427 => (if t427 < 0 then (some false) else (if t427 = bt425.1 then ((laws_toDoc.f k x382000 x382001 x382002).bind fun bt428 => ((laws_toHoldS.f k x1).bind fun t433 => ((impl_DropHold.f k bt428.1 bt428.2.1 bt428.2.2 t433 x2 x3).bind fun bt436 => ((laws_eqHoldS.f k bt436.1 x10).bind fun t440 => (if t440 = true then (laws_FnExactDropHold.j2 k bt425.2 bt425.1 (bt436.2 != x11)) else (laws_FnExactDropHold.j2 k bt425.2 bt425.1 true)))))) else (some false)))))
def laws_FnExactDropHold.j2 : Nat → List (S44) → Int → Bool → Option (Bool)
 | 0, _, _, _ => none
 | k + 1, x14, x17, x120 => if x120 = true then (some false) else ((laws_heldHoldS.f k x14 1).bind fun t441 => (if t441 < 0 then (some false) else (if t441 = x17 then (some true) else (some false))))
end
def laws_FnExactDropHold.f (k : Nat) (a0_0 : Int) (a0_1 : Int) (l0_2 : List (S153)) (l1 : List (S42)) (a2 : Int) (a3 : Int) : Option (Bool) := (laws_szDoc.f k a0_0 a0_1 l0_2 1048576).bind fun t382 => (if t382 < 0 then (some true) else ((laws_szHoldS.f l1 t382).bind fun t383 => (if t383 < 0 then (some true) else ((laws_toDoc.f k a0_0 a0_1 l0_2).bind fun bt384 => ((laws_toHoldS.f k l1).bind fun t389 => ((spec_DropHold.f k bt384.1 bt384.2.1 bt384.2.2 t389 a2 a3).bind fun bt392 => ((laws_toDoc.f k a0_0 a0_1 l0_2).bind fun bt396 => ((laws_toHoldS.f k l1).bind fun t402 => ((impl_DropHold.f k bt396.1 bt396.2.1 bt396.2.2 t402 a2 a3).bind fun bt405 => ((laws_eqHoldS.f k bt405.1 bt392.1).bind fun t409 => (if t409 = true then (laws_FnExactDropHold.j0 k l1 a2 a3 bt392.1 bt392.2 t402 bt405.1 bt405.2 (bt405.2 != bt392.2) a0_0 a0_1 l0_2 bt396.1 bt396.2.1 bt396.2.2) else (laws_FnExactDropHold.j0 k l1 a2 a3 bt392.1 bt392.2 t402 bt405.1 bt405.2 true a0_0 a0_1 l0_2 bt396.1 bt396.2.1 bt396.2.2))))))))))))
set_option maxHeartbeats 8000000 in
set_option maxRecDepth 100000 in
theorem laws_FnExactDropHold.calls (k : Nat) (a0_0 : Int) (a0_1 : Int) (A0_2 : Option Addr) (c0_2 : Nat) (l0_2 : List (S153)) (A1 : Option Addr) (c1 : Nat) (l1 : List (S42)) (a2 : Int) (a3 : Int) (r : Bool) (w : World) (hr0_2 : Kd.C k153 w A0_2 l0_2.length l0_2) (hc0_2 : l0_2.length ≤ c0_2) (hr1 : Kd.C k42 w A1 l1.length l1) (hc1 : l1.length ≤ c1) (hr_ : r = true) (h : laws_FnExactDropHold.f k a0_0 a0_1 l0_2 l1 a2 a3 = some r) :
  Calls Try.prog 3 #[.agg #[.int .i64 a0_0, .int .i64 a0_1, .slice A0_2 l0_2.length c0_2], .slice A1 l1.length c1, .int .i64 a2, .int .i64 a3] w fun e w' => e = .returned (.bool r) ∧ Below w.heap.size w w' := by
 subst hr_
 have hu24 := Try.underlying24
 have hu33 := Try.underlying33
 have HR0_2 := Aside0.mk hr0_2
 have HC0_2 := Aside0.mk hc0_2
 clear hr0_2 hc0_2
 have HR1 := Aside0.mk hr1
 have HC1 := Aside0.mk hc1
 clear hr1 hc1
 have HB := Aside0.mk (Below.refl w.heap.size w)
 have H : ((laws_szDoc.f k a0_0 a0_1 l0_2 1048576).bind fun t382 => (if t382 < 0 then (some true) else ((laws_szHoldS.f l1 t382).bind fun t383 => (if t383 < 0 then (some true) else ((laws_toDoc.f k a0_0 a0_1 l0_2).bind fun bt384 => ((laws_toHoldS.f k l1).bind fun t389 => ((spec_DropHold.f k bt384.1 bt384.2.1 bt384.2.2 t389 a2 a3).bind fun bt392 => ((laws_toDoc.f k a0_0 a0_1 l0_2).bind fun bt396 => ((laws_toHoldS.f k l1).bind fun t402 => ((impl_DropHold.f k bt396.1 bt396.2.1 bt396.2.2 t402 a2 a3).bind fun bt405 => ((laws_eqHoldS.f k bt405.1 bt392.1).bind fun t409 => (if t409 = true then (laws_FnExactDropHold.j0 k l1 a2 a3 bt392.1 bt392.2 t402 bt405.1 bt405.2 (bt405.2 != bt392.2) a0_0 a0_1 l0_2 bt396.1 bt396.2.1 bt396.2.2) else (laws_FnExactDropHold.j0 k l1 a2 a3 bt392.1 bt392.2 t402 bt405.1 bt405.2 true a0_0 a0_1 l0_2 bt396.1 bt396.2.1 bt396.2.2))))))))))))) = some true := h
 clear h
 obtain ⟨t382, A5, H⟩ := Xbi H
 (try dsimp only at H)
 have HC6 := Aside0.mk H
 clear H
 go_enter Try.func3, Try.ntmps3
 go_upto_if 25 with (first | ((with_reducible refine gate_dst (N := 4) rfl ?_); refine Xbox 4 #[.int .i64 a0_0, .int .i64 a0_1, .slice A0_2 l0_2.length c0_2] 24 ?_; intro gb381 hg w7 hbox hb; have BK381 := Aside0.mk (hbox); have GE381 := Xge hg Xi; replace HB := Aside0.mk (below_step Xi hb); clear hb hbox hg; obtain ⟨hcz8_0, hcz8_1, hcz8_2⟩ := Xc3 BK381; obtain ⟨hfz8_0, hfz8_1, hfz8_2⟩ := Xf3 BK381) | ((with_reducible refine gate_callee (f := 11) rfl ?_); refine Xgo 23 Try.func11 #[.agg #[.int .i64 a0_0, .int .i64 a0_1, .slice A0_2 l0_2.length c0_2], .int .i64 1048576] ?_; (with_reducible refine (laws_szDoc.calls k a0_0 a0_1 _ _ l0_2 1048576 t382 _ ?side1 ?side2 A5.out).mono ?_); (case side1 => exact Xc HR0_2); (case side2 => exact HC0_2.out); rintro e w9 ⟨rfl, hb⟩; refine ⟨_, rfl, ?_⟩; replace BK381 := Xbb BK381 hb; replace HB := Aside0.mk (below_step Xi hb); clear hb))
 have H := HC6.out
 clear HC6
 obtain ⟨c10b0, H⟩ | ⟨c10b0, H⟩ := Xit H
 ·(first | rw [c10b0] | (simp only [i64_w, i32_w]; rw [c10b0]) | skip)
  go_wp2
  go_ret
  exact ⟨Xe, Xi⟩
 ·(first | rw [c10b0] | (simp only [i64_w, i32_w]; rw [c10b0]) | skip)
  obtain ⟨t383, A11, H⟩ := Xbi H
  (try dsimp only at H)
  have HC12 := Aside0.mk H
  clear H
  go_upto_if 30 with (first | ((with_reducible refine gate_callee (f := 12) rfl ?_); refine Xgo 28 Try.func12 #[.slice A1 l1.length c1, .int .i64 t382] ?_; (with_reducible refine (laws_szHoldS.calls _ _ l1 t382 t383 _ ?side1 ?side2 A11.out).mono ?_); (case side1 => exact Xc HR1); (case side2 => exact HC1.out); rintro e w' ⟨rfl, ⟨nd, rfl⟩⟩; refine ⟨_, rfl, ?_⟩))
  (try (rw [drewN_self w9]; generalize hq_ : World.drewN w9 _ = w9; have n0_ : Aside0 (w9.heap[gb381]? = some (.cells #[.int .i64 a0_0, .int .i64 a0_1, .slice A0_2 l0_2.length c0_2] 24 (0, 0))) := ⟨by rw [← hq_]; exact BK381.out⟩; have n1_ : Aside0 (Below w.heap.size w w9) := ⟨by rw [← hq_]; exact Xi⟩; clear BK381 HB hq_; have BK381 := n0_; have HB := n1_; clear n0_ n1_))
  have H := HC12.out
  clear HC12
  obtain ⟨c13b0, H⟩ | ⟨c13b0, H⟩ := Xit H
  ·(first | rw [c13b0] | (simp only [i64_w, i32_w]; rw [c13b0]) | skip)
   go_wp2
   go_ret
   exact ⟨Xe, Xi⟩
  ·(first | rw [c13b0] | (simp only [i64_w, i32_w]; rw [c13b0]) | skip)
   replace H := Option.bind_eq_some_iff.mp H
   obtain ⟨⟨t384, t385, t386⟩, A140, H⟩ := H
   (try dsimp only at H)
   have A14 := Aside0.mk A140
   clear A140
   obtain ⟨t389, A15, H⟩ := Xbi H
   (try dsimp only at H)
   replace H := Option.bind_eq_some_iff.mp H
   obtain ⟨⟨t392, t395⟩, A160, H⟩ := H
   (try dsimp only at H)
   have A16 := Aside0.mk A160
   clear A160
   replace H := Option.bind_eq_some_iff.mp H
   obtain ⟨⟨t396, t397, t398⟩, A170, H⟩ := H
   (try dsimp only at H)
   have A17 := Aside0.mk A170
   clear A170
   obtain ⟨t402, A18, H⟩ := Xbi H
   (try dsimp only at H)
   replace H := Option.bind_eq_some_iff.mp H
   obtain ⟨⟨t405, t408⟩, A190, H⟩ := H
   (try dsimp only at H)
   have A19 := Aside0.mk A190
   clear A190
   have HC20 := Aside0.mk H
   clear H
   obtain ⟨hcz21_0, hcz21_1, hcz21_2⟩ := Xc3 BK381
   obtain ⟨hfz21_0, hfz21_1, hfz21_2⟩ := Xf3 BK381
   go_upto_region 12 with (first | ((with_reducible refine gate_callee (f := 14) rfl ?_); refine Xgo 33 Try.func14 #[.agg #[.int .i64 a0_0, .int .i64 a0_1, .slice A0_2 l0_2.length c0_2]] ?_; (with_reducible refine (laws_toDoc.calls k a0_0 a0_1 _ _ l0_2 t384 t385 t386 _ ?side1 ?side2 A14.out).mono ?_); (case side1 => exact Xc HR0_2); (case side2 => exact HC0_2.out); rintro e w22 ⟨v387, rfl, ho0, hb⟩; refine ⟨_, rfl, ?_⟩; have HO388 := Aside0.mk (Kd.S_lower ho0 (below_size Xi)); replace BK381 := Xbb BK381 hb; replace HB := Aside0.mk (below_step Xi hb); clear hb; (try clear ho0)) | ((with_reducible refine gate_callee (f := 15) rfl ?_); refine Xgo 35 Try.func15 #[.slice A1 l1.length c1] ?_; (with_reducible refine (laws_toHoldS.calls k _ _ l1 t389 _ ?side1 ?side2 A15.out).mono ?_); (case side1 => exact Xc HR1); (case side2 => exact HC1.out); rintro e w23 ⟨v390, rfl, ho0, hb⟩; refine ⟨_, rfl, ?_⟩; replace HO388 := Aside0.mk (Kd.S_below (Xq HO388) hb); have HO391 := Aside0.mk (Kd.R_lower ho0 (below_size Xi)); replace BK381 := Xbb BK381 hb; replace HB := Aside0.mk (below_step Xi hb); clear hb; (try clear ho0); obtain ⟨Ao24, co24, eo24⟩ := Kd.S_slice HO388.out; subst eo24; obtain ⟨Ao25, co25, eo25⟩ := Kd.R_slice HO391.out; subst eo25) | ((with_reducible refine gate_callee (f := 13) rfl ?_); refine Xgo 38 Try.func13 #[.agg #[.int .i64 t384, .int .i64 t385, .slice Ao24 t386.length co24], .slice Ao25 t389.length co25, .int .i64 a2, .int .i64 a3] ?_; (with_reducible refine (spec_DropHold.calls k t384 t385 _ _ t386 _ _ t389 a2 a3 t392 t395 _ ?side1 ?side2 ?side3 ?side4 A16.out).mono ?_); (case side1 => repeat (first | exact (Kd.S_reads' HO388.out).2.2 | (with_reducible first | refine Kd.C_alloc ?_ _ | refine Kd.C_drewN ?_ _ | refine Kd.C_drew ?_))); (case side2 => exact (Kd.S_reads' HO388.out).2.1); (case side3 => repeat (first | exact (Kd.R_reads' HO391.out).2.2 | (with_reducible first | refine Kd.C_alloc ?_ _ | refine Kd.C_drewN ?_ _ | refine Kd.C_drew ?_))); (case side4 => exact (Kd.R_reads' HO391.out).2.1); rintro e w26 ⟨v393, rfl, ho0, hb⟩; refine ⟨_, rfl, ?_⟩; replace HO388 := Aside0.mk (Kd.S_below (Xq HO388) hb); have HO394 := Aside0.mk (Kd.R_lower (Kd.R_new' ho0 (Kd.R_lt (Xq HO391))) (below_size Xi)); replace HO391 := Aside0.mk (Kd.R_elder' (Xq HO391) (Kd.R_base ho0) hb); replace BK381 := Xbb BK381 hb; replace HB := Aside0.mk (below_step Xi hb); clear hb; (try clear ho0); obtain ⟨hcz27_0, hcz27_1, hcz27_2⟩ := Xc3 BK381; obtain ⟨hfz27_0, hfz27_1, hfz27_2⟩ := Xf3 BK381) | ((with_reducible refine gate_callee (f := 14) rfl ?_); refine Xgo 42 Try.func14 #[.agg #[.int .i64 a0_0, .int .i64 a0_1, .slice A0_2 l0_2.length c0_2]] ?_; (with_reducible refine (laws_toDoc.calls k a0_0 a0_1 _ _ l0_2 t396 t397 t398 _ ?side1 ?side2 A17.out).mono ?_); (case side1 => exact Xc HR0_2); (case side2 => exact HC0_2.out); rintro e w28 ⟨v399, rfl, ho0, hb⟩; refine ⟨_, rfl, ?_⟩; replace HO391 := Aside0.mk (Kd.R_below (Xq HO391) hb); replace HO394 := Aside0.mk (Kd.R_below (Xq HO394) hb); have HO400 := Aside0.mk (Kd.S_lower (Kd.S_new' ho0 (Kd.S_lt (Xq HO388))) (below_size Xi)); replace HO388 := Aside0.mk (Kd.S_elder' (Xq HO388) (Kd.S_base ho0) hb); replace BK381 := Xbb BK381 hb; replace HB := Aside0.mk (below_step Xi hb); clear hb; (try clear ho0)) | ((with_reducible refine gate_dst (N := 12) rfl ?_); refine Xbox 12 #[.int .i64 0, .int .i64 0, .slice none 0 0] 33 ?_; intro gb401 hg w29 hbox hb; replace HO388 := Aside0.mk (Kd.S_below (Xq HO388) hb); replace HO391 := Aside0.mk (Kd.R_below (Xq HO391) hb); replace HO394 := Aside0.mk (Kd.R_below (Xq HO394) hb); replace HO400 := Aside0.mk (Kd.S_below (Xq HO400) hb); have BK401 := Aside0.mk (hbox); have GE401 := Xge hg Xi; replace HB := Aside0.mk (below_step Xi hb); have NB381_401 := Xnb hg BK381; have NB401_381 := Xns NB381_401; replace BK381 := Xbb BK381 hb; clear hb hbox hg; have hnb30 := NB401_381.out; have hnc30 := NB381_401.out; obtain ⟨hcz31_0, hcz31_1, hcz31_2⟩ := Xc3 BK401; obtain ⟨hfz31_0, hfz31_1, hfz31_2⟩ := Xf3 BK401; obtain ⟨Ao32, co32, eo32⟩ := Kd.S_slice HO400.out; subst eo32) | ((with_reducible refine gate_store (t := 33) (p := 12) rfl ?_); refine store_event (t := 33) (p := 12) (v := ?vo_w33) (w1 := (((w29.setCell ⟨gb401, 0, none⟩ (.int .i64 t396)).setCell ⟨gb401, 1, none⟩ (.int .i64 t397)).setCell ⟨gb401, 2, none⟩ (.slice Ao32 t398.length co32))) ?hg ?ho ?hn ?hr ?_; (case ho => rfl); (case hg => rfl); (case hn => rfl); (case hr => first | (go_simp; done) | (go_simp; rfl)); intro w33 hw; have n0_ : Aside0 (Kd.S k73 73 w33 w.heap.size (fun k_ => some k_ ≠ (.slice Ao32 t398.length co32 : Value).ownBlock) (.slice Ao24 t386.length co24) t386) := ⟨(by rw [hw]; exact (by (with_reducible repeat (first | apply Kd.S_alloc | apply Kd.S_drewN | apply Kd.S_drew)); exact Kd.S_mono (Kd.S_far (p := ⟨gb401, 2, none⟩) (Kd.S_far (p := ⟨gb401, 1, none⟩) (Kd.S_far (p := ⟨gb401, 0, none⟩) (Kd.S_types HO388.out BK401.out (by decide)) (fun _ hk => hk.2) (.int .i64 t396)) (fun _ hk => hk.2) (.int .i64 t397)) (fun _ hk => hk.2) (.slice Ao32 t398.length co32)) (fun _ hk => hk.1.2)))⟩; have n1_ : Aside0 (Kd.R k44 44 w33 w.heap.size (fun k_ => some k_ ≠ (v393 : Value).ownBlock) (.slice Ao25 t389.length co25) t389) := ⟨(by rw [hw]; exact (by (with_reducible repeat (first | apply Kd.R_alloc | apply Kd.R_drewN | apply Kd.R_drew)); exact Kd.R_mono (Kd.R_far (p := ⟨gb401, 2, none⟩) (Kd.R_far (p := ⟨gb401, 1, none⟩) (Kd.R_far (p := ⟨gb401, 0, none⟩) (Kd.R_types HO391.out BK401.out (by decide)) (fun _ hk => hk.2) (.int .i64 t396)) (fun _ hk => hk.2) (.int .i64 t397)) (fun _ hk => hk.2) (.slice Ao32 t398.length co32)) (fun _ hk => hk.1.2)))⟩; have n2_ : Aside0 (Kd.R k44 44 w33 w.heap.size (fun k_ => some k_ ≠ (.slice Ao25 t389.length co25 : Value).ownBlock) v393 t392) := ⟨(by rw [hw]; exact (by (with_reducible repeat (first | apply Kd.R_alloc | apply Kd.R_drewN | apply Kd.R_drew)); exact Kd.R_mono (Kd.R_far (p := ⟨gb401, 2, none⟩) (Kd.R_far (p := ⟨gb401, 1, none⟩) (Kd.R_far (p := ⟨gb401, 0, none⟩) (Kd.R_types HO394.out BK401.out (by decide)) (fun _ hk => hk.2) (.int .i64 t396)) (fun _ hk => hk.2) (.int .i64 t397)) (fun _ hk => hk.2) (.slice Ao32 t398.length co32)) (fun _ hk => hk.1.2)))⟩; have n3_ : Aside0 (Kd.S k73 73 w33 w.heap.size (fun k_ => some k_ ≠ (.slice Ao24 t386.length co24 : Value).ownBlock) (.slice Ao32 t398.length co32) t398) := ⟨(by rw [hw]; exact (by (with_reducible repeat (first | apply Kd.S_alloc | apply Kd.S_drewN | apply Kd.S_drew)); exact Kd.S_mono (Kd.S_far (p := ⟨gb401, 2, none⟩) (Kd.S_far (p := ⟨gb401, 1, none⟩) (Kd.S_far (p := ⟨gb401, 0, none⟩) (Kd.S_types HO400.out BK401.out (by decide)) (fun _ hk => hk.2) (.int .i64 t396)) (fun _ hk => hk.2) (.int .i64 t397)) (fun _ hk => hk.2) (.slice Ao32 t398.length co32)) (fun _ hk => hk.1.2)))⟩; have n4_ : Aside0 (w33.heap[gb381]? = some (.cells #[.int .i64 a0_0, .int .i64 a0_1, .slice A0_2 l0_2.length c0_2] 24 (0, 0))) := ⟨(by rw [hw]; exact (by (with_reducible repeat (first | refine blk_drewN ?_ _ | refine blk_drew ?_ | refine blk_alloc ?_ _)); refine blk_far ?_ NB381_401.out _; (with_reducible repeat (first | refine blk_drewN ?_ _ | refine blk_drew ?_ | refine blk_alloc ?_ _)); refine blk_far ?_ NB381_401.out _; (with_reducible repeat (first | refine blk_drewN ?_ _ | refine blk_drew ?_ | refine blk_alloc ?_ _)); refine blk_far ?_ NB381_401.out _; (with_reducible repeat (first | refine blk_drewN ?_ _ | refine blk_drew ?_ | refine blk_alloc ?_ _)); exact BK381.out))⟩; have n5_ : Aside0 (w33.heap[gb401]? = some (.cells #[.int .i64 t396, .int .i64 t397, .slice Ao32 t398.length co32] 33 (0, 0))) := ⟨(by rw [hw]; exact (by (with_reducible repeat (first | refine blk_drewN ?_ _ | refine blk_drew ?_ | refine blk_alloc ?_ _)); refine blk_put (cs := #[.int .i64 t396, .int .i64 t397, .slice none 0 0]) ?_ 2 _ rfl; (with_reducible repeat (first | refine blk_drewN ?_ _ | refine blk_drew ?_ | refine blk_alloc ?_ _)); refine blk_put (cs := #[.int .i64 t396, .int .i64 0, .slice none 0 0]) ?_ 1 _ rfl; (with_reducible repeat (first | refine blk_drewN ?_ _ | refine blk_drew ?_ | refine blk_alloc ?_ _)); refine blk_put (cs := #[.int .i64 0, .int .i64 0, .slice none 0 0]) ?_ 0 _ rfl; (with_reducible repeat (first | refine blk_drewN ?_ _ | refine blk_drew ?_ | refine blk_alloc ?_ _)); exact BK401.out))⟩; have n6_ : Aside0 (Below w.heap.size w w33) := ⟨(by rw [hw]; exact Xi)⟩; clear hw; clear HO388; clear HO391; clear HO394; clear HO400; clear BK381; clear BK401; clear HB; have HO388 := n0_; have HO391 := n1_; have HO394 := n2_; have HO400 := n3_; have BK381 := n4_; have BK401 := n5_; have HB := n6_; clear n0_ n1_ n2_ n3_ n4_ n5_ n6_) | ((with_reducible refine gate_callee (f := 15) rfl ?_); refine Xgo 44 Try.func15 #[.slice A1 l1.length c1] ?_; (with_reducible refine (laws_toHoldS.calls k _ _ l1 t402 _ ?side1 ?side2 A18.out).mono ?_); (case side1 => exact Xc HR1); (case side2 => exact HC1.out); rintro e w34 ⟨v403, rfl, ho0, hb⟩; refine ⟨_, rfl, ?_⟩; replace HO388 := Aside0.mk (Kd.S_below (Xq HO388) hb); replace HO400 := Aside0.mk (Kd.S_below (Xq HO400) hb); have HO404 := Aside0.mk (Kd.R_lower (Kd.R_new' (Kd.R_new' ho0 (Kd.R_lt (Xq HO391))) (Kd.R_lt (Xq HO394))) (below_size Xi)); replace HO391 := Aside0.mk (Kd.R_elder' (Xq HO391) (Kd.R_base ho0) hb); replace HO394 := Aside0.mk (Kd.R_elder' (Xq HO394) (Kd.R_base ho0) hb); replace BK381 := Xbb BK381 hb; replace BK401 := Xbb BK401 hb; replace HB := Aside0.mk (below_step Xi hb); clear hb; (try clear ho0); obtain ⟨hcz35_0, hcz35_1, hcz35_2⟩ := Xc3 BK401; obtain ⟨hfz35_0, hfz35_1, hfz35_2⟩ := Xf3 BK401; obtain ⟨Ao36, co36, eo36⟩ := Kd.R_slice HO404.out; subst eo36) | ((with_reducible refine gate_callee (f := 16) rfl ?_); refine Xgo 50 Try.func16 #[.agg #[.int .i64 t396, .int .i64 t397, .slice Ao32 t398.length co32], .slice Ao36 t402.length co36, .int .i64 a2, .int .i64 a3] ?_; (with_reducible refine (impl_DropHold.calls k t396 t397 _ _ t398 _ _ t402 a2 a3 t405 t408 _ ?side1 ?side2 ?side3 ?side4 A19.out).mono ?_); (case side1 => repeat (first | exact (Kd.S_reads' HO400.out).2.2 | (with_reducible first | refine Kd.C_alloc ?_ _ | refine Kd.C_drewN ?_ _ | refine Kd.C_drew ?_))); (case side2 => exact (Kd.S_reads' HO400.out).2.1); (case side3 => repeat (first | exact (Kd.R_reads' HO404.out).2.2 | (with_reducible first | refine Kd.C_alloc ?_ _ | refine Kd.C_drewN ?_ _ | refine Kd.C_drew ?_))); (case side4 => exact (Kd.R_reads' HO404.out).2.1); rintro e w37 ⟨v406, rfl, ho0, hb⟩; refine ⟨_, rfl, ?_⟩; replace HO388 := Aside0.mk (Kd.S_below (Xq HO388) hb); replace HO400 := Aside0.mk (Kd.S_below (Xq HO400) hb); have HO407 := Aside0.mk (Kd.R_lower (Kd.R_new' (Kd.R_new' (Kd.R_new' ho0 (Kd.R_lt (Xq HO391))) (Kd.R_lt (Xq HO394))) (Kd.R_lt (Xq HO404))) (below_size Xi)); replace HO391 := Aside0.mk (Kd.R_elder' (Xq HO391) (Kd.R_base ho0) hb); replace HO394 := Aside0.mk (Kd.R_elder' (Xq HO394) (Kd.R_base ho0) hb); replace HO404 := Aside0.mk (Kd.R_elder' (Xq HO404) (Kd.R_base ho0) hb); replace BK381 := Xbb BK381 hb; replace BK401 := Xbb BK401 hb; replace HB := Aside0.mk (below_step Xi hb); clear hb; (try clear ho0)))
   (try simp only [XW.q0, XW.q1, XW.q2])
   go_cut [61] (fun v61 wc => ∃ (kq : Nat) (x61_19 : Bool), v61 = .bool x61_19 ∧ Aside0 (laws_FnExactDropHold.j0 kq l1 a2 a3 t392 t395 t402 t405 t408 x61_19 a0_0 a0_1 l0_2 t396 t397 t398 = some true) ∧ Aside0 (kq ≤ k) ∧ Aside0 (Kd.R k44 44 wc w.heap.size (fun k_ => some k_ ≠ ((.slice Ao36 t402.length co36) : Value).ownBlock ∧ some k_ ≠ (v406 : Value).ownBlock) v393 t392) ∧ Aside0 (Kd.R k44 44 wc w.heap.size (fun k_ => some k_ ≠ (v393 : Value).ownBlock ∧ some k_ ≠ (v406 : Value).ownBlock) (.slice Ao36 t402.length co36) t402) ∧ Aside0 (Kd.R k44 44 wc w.heap.size (fun k_ => some k_ ≠ (v393 : Value).ownBlock ∧ some k_ ≠ ((.slice Ao36 t402.length co36) : Value).ownBlock) v406 t405) ∧ Aside0 (Kd.S k73 73 wc w.heap.size (fun _ => True) (.slice Ao32 t398.length co32) t398) ∧ Aside0 (wc.heap[gb381]? = some (.cells #[.int .i64 a0_0, .int .i64 a0_1, (.slice A0_2 l0_2.length c0_2)] 24 (0, 0))) ∧ Aside0 (wc.heap[gb401]? = some (.cells #[.int .i64 t396, .int .i64 t397, (.slice Ao32 t398.length co32)] 33 (0, 0))) ∧ Aside0 (Below w.heap.size w wc))
   case first =>
    have H := HC20.out
    clear HC20
    obtain ⟨t409, A38, H⟩ := Xbi H
    (try dsimp only at H)
    by_cases c39 : t409 = true
    ·subst c39
     (first | rw [if_pos rfl] at H | skip)
     have H' := Aside0.mk H
     clear H
     obtain ⟨Ao40, co40, eo40⟩ := Kd.R_slice HO407.out
     subst eo40
     obtain ⟨Ao41, co41, eo41⟩ := Kd.R_slice HO394.out
     subst eo41
     go_wp2_with (first | ((with_reducible refine gate_callee (f := 17) rfl ?_); refine Xgo 55 Try.func17 #[.slice Ao40 t405.length co40, .slice Ao41 t392.length co41] ?_; (with_reducible refine (laws_eqHoldS.calls k _ _ t405 _ _ t392 true _ ?side1 ?side2 ?side3 ?side4 A38.out).mono ?_); (case side1 => repeat (first | exact (Kd.R_reads' HO407.out).2.2 | (with_reducible first | refine Kd.C_alloc ?_ _ | refine Kd.C_drewN ?_ _ | refine Kd.C_drew ?_))); (case side2 => exact (Kd.R_reads' HO407.out).2.1); (case side3 => repeat (first | exact (Kd.R_reads' HO394.out).2.2 | (with_reducible first | refine Kd.C_alloc ?_ _ | refine Kd.C_drewN ?_ _ | refine Kd.C_drew ?_))); (case side4 => exact (Kd.R_reads' HO394.out).2.1); rintro e w42 ⟨rfl, hb⟩; refine ⟨_, rfl, ?_⟩; replace HO388 := Aside0.mk (Kd.S_below (Xq HO388) hb); replace HO391 := Aside0.mk (Kd.R_below (Xq HO391) hb); replace HO394 := Aside0.mk (Kd.R_below (Xq HO394) hb); replace HO400 := Aside0.mk (Kd.S_below (Xq HO400) hb); replace HO404 := Aside0.mk (Kd.R_below (Xq HO404) hb); replace HO407 := Aside0.mk (Kd.R_below (Xq HO407) hb); replace BK381 := Xbb BK381 hb; replace BK401 := Xbb BK401 hb; replace HB := Aside0.mk (below_step Xi hb); clear hb))
     go_meet
     case rel => exact ⟨_, ((t408 != t395)), Xr, H', Xko, ⟨by (with_reducible repeat (first | apply Kd.R_alloc | apply Kd.R_drewN | apply Kd.R_drew)); exact Kd.R_mono HO394.out (fun _ hk => ⟨hk.1.2, hk.2⟩)⟩, ⟨by (with_reducible repeat (first | apply Kd.R_alloc | apply Kd.R_drewN | apply Kd.R_drew)); exact Kd.R_mono HO404.out (fun _ hk => ⟨hk.1.2, hk.2⟩)⟩, ⟨by (with_reducible repeat (first | apply Kd.R_alloc | apply Kd.R_drewN | apply Kd.R_drew)); exact Kd.R_mono HO407.out (fun _ hk => ⟨hk.1.2, hk.2⟩)⟩, ⟨by (with_reducible repeat (first | apply Kd.S_alloc | apply Kd.S_drewN | apply Kd.S_drew)); exact Kd.S_mono HO400.out (fun _ hk => trivial)⟩, BK381, BK401, ⟨Xi⟩⟩
    ·replace c39 := Bool.eq_false_iff.mpr c39
     subst c39
     (first | rw [if_neg (show ¬ (false = true) by decide)] at H | skip)
     have H' := Aside0.mk H
     clear H
     obtain ⟨Ao43, co43, eo43⟩ := Kd.R_slice HO407.out
     subst eo43
     obtain ⟨Ao44, co44, eo44⟩ := Kd.R_slice HO394.out
     subst eo44
     go_wp2_with (first | ((with_reducible refine gate_callee (f := 17) rfl ?_); refine Xgo 55 Try.func17 #[.slice Ao43 t405.length co43, .slice Ao44 t392.length co44] ?_; (with_reducible refine (laws_eqHoldS.calls k _ _ t405 _ _ t392 false _ ?side1 ?side2 ?side3 ?side4 A38.out).mono ?_); (case side1 => repeat (first | exact (Kd.R_reads' HO407.out).2.2 | (with_reducible first | refine Kd.C_alloc ?_ _ | refine Kd.C_drewN ?_ _ | refine Kd.C_drew ?_))); (case side2 => exact (Kd.R_reads' HO407.out).2.1); (case side3 => repeat (first | exact (Kd.R_reads' HO394.out).2.2 | (with_reducible first | refine Kd.C_alloc ?_ _ | refine Kd.C_drewN ?_ _ | refine Kd.C_drew ?_))); (case side4 => exact (Kd.R_reads' HO394.out).2.1); rintro e w45 ⟨rfl, hb⟩; refine ⟨_, rfl, ?_⟩; replace HO388 := Aside0.mk (Kd.S_below (Xq HO388) hb); replace HO391 := Aside0.mk (Kd.R_below (Xq HO391) hb); replace HO394 := Aside0.mk (Kd.R_below (Xq HO394) hb); replace HO400 := Aside0.mk (Kd.S_below (Xq HO400) hb); replace HO404 := Aside0.mk (Kd.R_below (Xq HO404) hb); replace HO407 := Aside0.mk (Kd.R_below (Xq HO407) hb); replace BK381 := Xbb BK381 hb; replace BK401 := Xbb BK401 hb; replace HB := Aside0.mk (below_step Xi hb); clear hb))
     go_meet
     case rel => exact ⟨_, (true), Xr, H', Xko, ⟨by (with_reducible repeat (first | apply Kd.R_alloc | apply Kd.R_drewN | apply Kd.R_drew)); exact Kd.R_mono HO394.out (fun _ hk => ⟨hk.1.2, hk.2⟩)⟩, ⟨by (with_reducible repeat (first | apply Kd.R_alloc | apply Kd.R_drewN | apply Kd.R_drew)); exact Kd.R_mono HO404.out (fun _ hk => ⟨hk.1.2, hk.2⟩)⟩, ⟨by (with_reducible repeat (first | apply Kd.R_alloc | apply Kd.R_drewN | apply Kd.R_drew)); exact Kd.R_mono HO407.out (fun _ hk => ⟨hk.1.2, hk.2⟩)⟩, ⟨by (with_reducible repeat (first | apply Kd.S_alloc | apply Kd.S_drewN | apply Kd.S_drew)); exact Kd.S_mono HO400.out (fun _ hk => trivial)⟩, BK381, BK401, ⟨Xi⟩⟩
   case rest =>
    clear HC20
    (try clear c1); (try clear c10); (try clear c10b0); (try clear c13); (try clear c13b0); (try clear hcz21_0); (try clear hcz21_1); (try clear hcz21_2); (try clear hcz27_0); (try clear hcz27_1); (try clear hcz27_2); (try clear hcz31_0); (try clear hcz31_1); (try clear hcz31_2); (try clear hcz35_0); (try clear hcz35_1); (try clear hcz35_2); (try clear hcz8_0); (try clear hcz8_1); (try clear hcz8_2); (try clear hfz21_0); (try clear hfz21_1); (try clear hfz21_2); (try clear hfz27_0); (try clear hfz27_1); (try clear hfz27_2); (try clear hfz31_0); (try clear hfz31_1); (try clear hfz31_2); (try clear hfz35_0); (try clear hfz35_1); (try clear hfz35_2); (try clear hfz8_0); (try clear hfz8_1); (try clear hfz8_2)
    (try clear HO_10); (try clear HO_13); (try clear HO_14); (try clear HO_402002)
    obtain ⟨kq, x61_19, rfl, HA, HJ19, HO_10, HO_13, HO_14, HO_402002, BK381, BK401, HB⟩ := hcut
    cases kq with
    | zero => cases HA.out
    | succ kj19 =>
     have H := HA.out
     clear HA
     simp only [laws_FnExactDropHold.j0] at H
     by_cases c46 : x61_19 = true
     ·subst c46
      (first | rw [if_pos rfl] at H | skip)
      cases H
     ·replace c46 := Bool.eq_false_iff.mpr c46
      subst c46
      (first | rw [if_neg (show ¬ (false = true) by decide)] at H | skip)
      replace H := Option.bind_eq_some_iff.mp H
      obtain ⟨⟨t410, t411, t412⟩, A470, H⟩ := H
      (try dsimp only at H)
      have A47 := Aside0.mk A470
      clear A470
      obtain ⟨t415, A48, H⟩ := Xbi H
      (try dsimp only at H)
      have HC49 := Aside0.mk H
      clear H
      try go_wp2_with (fail)
      replace HO_10 := Aside0.mk (Kd.R_drew HO_10.out)
      replace HO_13 := Aside0.mk (Kd.R_drew HO_13.out)
      replace HO_14 := Aside0.mk (Kd.R_drew HO_14.out)
      replace HO_402002 := Aside0.mk (Kd.S_drew HO_402002.out)
      replace BK381 := Aside0.mk (blk_drew BK381.out)
      replace BK401 := Aside0.mk (blk_drew BK401.out)
      replace HB := Aside0.mk (below_drew1 HB.out)
      refine start_ (n := 5) (S := fun w' => w'.cell? ⟨gb401, 0, none⟩ = some (.int .i64 t396) ∧ w'.cell? ⟨gb401, 1, none⟩ = some (.int .i64 t397) ∧ w'.cell? ⟨gb401, 2, none⟩ = some (.slice Ao32 t398.length co32) ∧ w'.cell? ⟨gb381, 0, none⟩ = some (.int .i64 a0_0) ∧ w'.cell? ⟨gb381, 1, none⟩ = some (.int .i64 a0_1) ∧ w'.cell? ⟨gb381, 2, none⟩ = some (.slice A0_2 l0_2.length c0_2)) (ds := []) #[false, false, false, false, false] (by kernel_rfl) rfl rfl ⟨(blk_cell BK401.out 0).trans rfl, (blk_cell BK401.out 1).trans rfl, (blk_cell BK401.out 2).trans rfl, (blk_cell BK381.out 0).trans rfl, (blk_cell BK381.out 1).trans rfl, (blk_cell BK381.out 2).trans rfl⟩ (fun hHeld => ?_)
      generalize wc.drew = w50 at HO_10 HO_13 HO_14 HO_402002 BK381 BK401 HB hHeld ⊢
      refine take_ (i := 0) (N := some 62) (v := ?_) (a' := ?_) #[true, false, false, false, false] rfl rfl (by kernel_rfl) (fun _ _ _ h => h) (Or.inl ⟨by rfl, ?_⟩) hHeld ?_ ?_
      rotate_left
      ·rintro w' ⟨s0, s1, s2, s3, s4, s5⟩
       go_simp
       with_reducible rfl
      rotate_left
      ·simp only [XW.q0, XW.q1, XW.q2, i64_w, i32_w]
       rfl
      refine take_ (i := 1) (N := some 63) (v := ?_) (a' := ?_) #[true, true, false, false, false] rfl rfl (by kernel_rfl) (fun _ _ _ h => h) (Or.inl ⟨by rfl, ?_⟩) hHeld ?_ ?_
      rotate_left
      ·rintro w' ⟨s0, s1, s2, s3, s4, s5⟩
       go_simp
       with_reducible rfl
      rotate_left
      ·simp only [XW.q0, XW.q1, XW.q2, i64_w, i32_w]
       rfl
      refine one_ (i := 2) (N := some 64) #[true, true, true, false, false] rfl rfl (by kernel_rfl) (by decide) (fun K hK => ?_)
      refine goes_ Try.func14 (by kernel_rfl) rfl #[.agg #[.int .i64 a0_0, .int .i64 a0_1, .slice A0_2 l0_2.length c0_2]] (by rfl) rfl rfl (by (try simp only [List.map_toArray, List.map_cons, List.map_nil]); first | done | rfl | (simp only [List.length_drop, List.length_take]; rfl)) ?_
      with_reducible refine (laws_toDoc.calls kj19 a0_0 a0_1 _ _ l0_2 t410 t411 t412 _ ?side1 ?side2 A47.out).mono ?_
      (case side1 => exact Xc HR0_2)
      (case side2 => exact HC0_2.out)
      rintro e w51 ⟨v413, rfl, ho0, hb⟩
      refine ⟨_, rfl, ?_⟩
      replace HO_10 := Aside0.mk (Kd.R_below (Xq HO_10) hb)
      replace HO_13 := Aside0.mk (Kd.R_below (Xq HO_13) hb)
      replace HO_14 := Aside0.mk (Kd.R_below (Xq HO_14) hb)
      have HO414 := Aside0.mk (Kd.S_lower (Kd.S_new' ho0 (Kd.S_lt (Xq HO_402002))) (below_size Xi))
      replace HO_402002 := Aside0.mk (Kd.S_elder' (Xq HO_402002) (Kd.S_base ho0) hb)
      replace BK381 := Xbb BK381 hb
      replace BK401 := Xbb BK401 hb
      replace HB := Aside0.mk (below_step Xi hb)
      (try clear hb)
      (try clear hb2)
      (try clear hk)
      (try clear hi)
      (try clear ho0)
      obtain ⟨Ao52, co52, eo52⟩ := Kd.S_slice HO414.out
      (first | subst eo52 | (injection eo52 with f1_ f2_ f3_; have f4_ := f1_.symm; have f5_ := f3_.symm; clear f1_ f2_ f3_; subst f4_; subst f5_))
      refine hK.out _ _ ⟨(blk_cell BK401.out 0).trans rfl, (blk_cell BK401.out 1).trans rfl, (blk_cell BK401.out 2).trans rfl, (blk_cell BK381.out 0).trans rfl, (blk_cell BK381.out 1).trans rfl, (blk_cell BK381.out 2).trans rfl⟩ (fun hHeld => ?_)
      clear hK K
      refine Xno ?_
      refine one_ (i := 3) (N := some 65) #[true, true, true, true, false] rfl rfl (by kernel_rfl) (by decide) (fun K hK => ?_)
      refine goes_ Try.func18 (by kernel_rfl) rfl #[.agg #[.int .i64 t396, .int .i64 t397, .slice Ao32 t398.length co32], .agg #[.int .i64 t410, .int .i64 t411, .slice Ao52 t412.length co52]] (by rfl) rfl rfl (by (try simp only [List.map_toArray, List.map_cons, List.map_nil]); first | done | rfl | (simp only [List.length_drop, List.length_take]; rfl)) ?_
      with_reducible refine (laws_eqDoc.calls kj19 t396 t397 _ _ t398 t410 t411 _ _ t412 t415 _ ?side1 ?side2 ?side3 ?side4 A48.out).mono ?_
      (case side1 => repeat (first | exact (Kd.S_reads' HO_402002.out).2.2 | (with_reducible first | refine Kd.C_alloc ?_ _ | refine Kd.C_drewN ?_ _ | refine Kd.C_drew ?_)))
      (case side2 => exact (Kd.S_reads' HO_402002.out).2.1)
      (case side3 => repeat (first | exact (Kd.S_reads' HO414.out).2.2 | (with_reducible first | refine Kd.C_alloc ?_ _ | refine Kd.C_drewN ?_ _ | refine Kd.C_drew ?_)))
      (case side4 => exact (Kd.S_reads' HO414.out).2.1)
      rintro e w53 ⟨rfl, hb⟩
      refine ⟨_, rfl, ?_⟩
      replace HO_10 := Aside0.mk (Kd.R_below (Xq HO_10) hb)
      replace HO_13 := Aside0.mk (Kd.R_below (Xq HO_13) hb)
      replace HO_14 := Aside0.mk (Kd.R_below (Xq HO_14) hb)
      replace HO_402002 := Aside0.mk (Kd.S_below (Xq HO_402002) hb)
      replace HO414 := Aside0.mk (Kd.S_below (Xq HO414) hb)
      replace BK381 := Xbb BK381 hb
      replace BK401 := Xbb BK401 hb
      replace HB := Aside0.mk (below_step Xi hb)
      (try clear hb)
      (try clear hb2)
      (try clear hk)
      (try clear hi)
      refine hK.out _ _ ⟨(blk_cell BK401.out 0).trans rfl, (blk_cell BK401.out 1).trans rfl, (blk_cell BK401.out 2).trans rfl, (blk_cell BK381.out 0).trans rfl, (blk_cell BK381.out 1).trans rfl, (blk_cell BK381.out 2).trans rfl⟩ (fun hHeld => ?_)
      clear hK K
      refine Xno ?_
      refine pure_ (i := 4) (N := some 66) (v := ?_) (a' := ?_) #[true, true, true, true, true] rfl rfl (by kernel_rfl) (fun _ _ _ h => h) (Or.inl ⟨by rfl, ?_⟩) ?_ ?_
      rotate_left
      ·intro w'
       go_simp
       with_reducible rfl
      rotate_left
      ·simp only [XW.q0, XW.q1, XW.q2, i64_w, i32_w]
       rfl
      refine done_ (by kernel_rfl) ?_
      go_upto_if 66 with (fail)
      have H := HC49.out
      clear HC49
      by_cases c54 : t415 = true
      ·subst c54
       (first | rw [if_pos rfl] at H | skip)
       obtain ⟨t416, A55, H⟩ := Xbi H
       (try dsimp only at H)
       obtain ⟨t419, A56, H⟩ := Xbi H
       (try dsimp only at H)
       have HC57 := Aside0.mk H
       clear H
       go_upto_if 71 with (first | ((with_reducible refine gate_callee (f := 15) rfl ?_); refine Xgo 69 Try.func15 #[.slice A1 l1.length c1] ?_; (with_reducible refine (laws_toHoldS.calls kj19 _ _ l1 t416 _ ?side1 ?side2 A55.out).mono ?_); (case side1 => exact Xc HR1); (case side2 => exact HC1.out); rintro e w58 ⟨v417, rfl, ho0, hb⟩; refine ⟨_, rfl, ?_⟩; replace HO_402002 := Aside0.mk (Kd.S_below (Xq HO_402002) hb); replace HO414 := Aside0.mk (Kd.S_below (Xq HO414) hb); have HO418 := Aside0.mk (Kd.R_lower (Kd.R_new' (Kd.R_new' (Kd.R_new' ho0 (Kd.R_lt (Xq HO_10))) (Kd.R_lt (Xq HO_13))) (Kd.R_lt (Xq HO_14))) (below_size Xi)); replace HO_10 := Aside0.mk (Kd.R_elder' (Xq HO_10) (Kd.R_base ho0) hb); replace HO_13 := Aside0.mk (Kd.R_elder' (Xq HO_13) (Kd.R_base ho0) hb); replace HO_14 := Aside0.mk (Kd.R_elder' (Xq HO_14) (Kd.R_base ho0) hb); replace BK381 := Xbb BK381 hb; replace BK401 := Xbb BK401 hb; replace HB := Aside0.mk (below_step Xi hb); clear hb; (try clear ho0); obtain ⟨Ao59, co59, eo59⟩ := Kd.R_slice HO418.out; subst eo59) | ((with_reducible refine gate_callee (f := 17) rfl ?_); refine Xgo 70 Try.func17 #[.slice Ao36 t402.length co36, .slice Ao59 t416.length co59] ?_; (with_reducible refine (laws_eqHoldS.calls kj19 _ _ t402 _ _ t416 t419 _ ?side1 ?side2 ?side3 ?side4 A56.out).mono ?_); (case side1 => repeat (first | exact (Kd.R_reads' HO_13.out).2.2 | (with_reducible first | refine Kd.C_alloc ?_ _ | refine Kd.C_drewN ?_ _ | refine Kd.C_drew ?_))); (case side2 => exact (Kd.R_reads' HO_13.out).2.1); (case side3 => repeat (first | exact (Kd.R_reads' HO418.out).2.2 | (with_reducible first | refine Kd.C_alloc ?_ _ | refine Kd.C_drewN ?_ _ | refine Kd.C_drew ?_))); (case side4 => exact (Kd.R_reads' HO418.out).2.1); rintro e w60 ⟨rfl, hb⟩; refine ⟨_, rfl, ?_⟩; replace HO_10 := Aside0.mk (Kd.R_below (Xq HO_10) hb); replace HO_13 := Aside0.mk (Kd.R_below (Xq HO_13) hb); replace HO_14 := Aside0.mk (Kd.R_below (Xq HO_14) hb); replace HO_402002 := Aside0.mk (Kd.S_below (Xq HO_402002) hb); replace HO414 := Aside0.mk (Kd.S_below (Xq HO414) hb); replace HO418 := Aside0.mk (Kd.R_below (Xq HO418) hb); replace BK381 := Xbb BK381 hb; replace BK401 := Xbb BK401 hb; replace HB := Aside0.mk (below_step Xi hb); clear hb))
       have H := HC57.out
       clear HC57
       by_cases c61 : t419 = true
       ·subst c61
        (first | rw [if_pos rfl] at H | skip)
        replace H := Option.bind_eq_some_iff.mp H
        obtain ⟨⟨t420, t421⟩, A620, H⟩ := H
        (try dsimp only at H)
        have A62 := Aside0.mk A620
        clear A620
        replace H := Option.bind_eq_some_iff.mp H
        obtain ⟨⟨t422, t423⟩, A630, H⟩ := H
        (try dsimp only at H)
        have A63 := Aside0.mk A630
        clear A630
        have HC64 := Aside0.mk H
        clear H
        have hnb65 := NB401_381.out
        have hnc65 := NB381_401.out
        obtain ⟨hcz66_0, hcz66_1, hcz66_2⟩ := Xc3 BK401
        obtain ⟨hfz66_0, hfz66_1, hfz66_2⟩ := Xf3 BK401
        go_upto_region 21 with (first | ((with_reducible refine gate_callee (f := 19) rfl ?_); refine Xgo 74 Try.func19 #[.agg #[.int .i64 t396, .int .i64 t397, .slice Ao32 t398.length co32], .int .i64 1] ?_; (with_reducible refine (laws_markDoc.calls kj19 t396 t397 (fun k_ => (((((((True ∧ some k_ ≠ (.slice Ao52 t412.length co52 : Value).ownBlock) ∧ k_ ≠ gb381) ∧ k_ ≠ gb401) ∧ some k_ ≠ (v393 : Value).ownBlock) ∧ some k_ ≠ (.slice Ao36 t402.length co36 : Value).ownBlock) ∧ some k_ ≠ (v406 : Value).ownBlock) ∧ some k_ ≠ (.slice Ao59 t416.length co59 : Value).ownBlock)) (.slice Ao32 t398.length co32) t398 1 t420 t421 w _ ?side1 ?side2 A62.out).mono ?_); (case side1 => exact Xi); (case side2 => (with_reducible repeat (first | apply Kd.S_alloc | apply Kd.S_drewN | apply Kd.S_drew)); exact (Kd.S_apart' (Kd.S_apart' (Kd.S_apart' (Kd.S_apart' (Kd.S_types (Kd.S_types HO_402002.out BK381.out (by decide)) BK401.out (by decide)) (Kd.R_typed HO_10.out) (by decide)) (Kd.R_typed HO_13.out) (by decide)) (Kd.R_typed HO_14.out) (by decide)) (Kd.R_typed HO418.out) (by decide))); rintro e w67 ⟨rfl, hy0, hb, hkp⟩; refine ⟨_, rfl, ?_⟩; replace HO_10 := Aside0.mk (Kd.R_mono (ok' := fun k_ => some k_ ≠ (.slice Ao36 t402.length co36 : Value).ownBlock ∧ some k_ ≠ (v406 : Value).ownBlock ∧ some k_ ≠ (.slice Ao59 t416.length co59 : Value).ownBlock) (XR.R_keptT rfl HO_10.out hkp (fun k_ hk_ hs_ => (hs_.1.1.1.2) hk_.1)) (fun k_ hk_ => ⟨hk_.1.1.1, hk_.1.1.2, hk_.1.2⟩)); replace HO_13 := Aside0.mk (Kd.R_mono (ok' := fun k_ => some k_ ≠ (v393 : Value).ownBlock ∧ some k_ ≠ (v406 : Value).ownBlock ∧ some k_ ≠ (.slice Ao59 t416.length co59 : Value).ownBlock) (XR.R_keptT rfl HO_13.out hkp (fun k_ hk_ hs_ => (hs_.1.1.2) hk_.1)) (fun k_ hk_ => ⟨hk_.1.1.1, hk_.1.1.2, hk_.1.2⟩)); replace HO_14 := Aside0.mk (Kd.R_mono (ok' := fun k_ => some k_ ≠ (v393 : Value).ownBlock ∧ some k_ ≠ (.slice Ao36 t402.length co36 : Value).ownBlock ∧ some k_ ≠ (.slice Ao59 t416.length co59 : Value).ownBlock) (XR.R_keptT rfl HO_14.out hkp (fun k_ hk_ hs_ => (hs_.1.2) hk_.1)) (fun k_ hk_ => ⟨hk_.1.1.1, hk_.1.1.2, hk_.1.2⟩)); replace HO_402002 := Aside0.mk (hy0); replace BK381 := Aside0.mk (blk_kept BK381.out hkp (fun hs_ => (hs_.1.1.1.1.1.2) rfl)); replace BK401 := Aside0.mk (blk_kept BK401.out hkp (fun hs_ => (hs_.1.1.1.1.2) rfl)); replace HO418 := Aside0.mk (Kd.R_mono (ok' := fun k_ => some k_ ≠ (v393 : Value).ownBlock ∧ some k_ ≠ (.slice Ao36 t402.length co36 : Value).ownBlock ∧ some k_ ≠ (v406 : Value).ownBlock) (XR.R_keptT rfl HO418.out hkp (fun k_ hk_ hs_ => (hs_.2) hk_.1)) (fun k_ hk_ => ⟨hk_.1.1.1.2, hk_.1.1.2, hk_.1.2⟩)); replace HB := Aside0.mk (hb); clear HO414; (try clear hb); (try clear hkp); (try clear hy0)) | ((with_reducible refine gate_callee (f := 20) rfl ?_); refine Xgo 77 Try.func20 #[.slice Ao36 t402.length co36, .int .i64 t420] ?_; (with_reducible refine (laws_markHoldS.calls kj19 (fun k_ => some k_ = (.slice Ao36 t402.length co36 : Value).ownBlock) (.slice Ao36 t402.length co36) t402 t420 t422 t423 w _ ?side1 ?side2 A63.out).mono ?_); (case side1 => exact Xi); (case side2 => exact Kd.R_tight rfl HO_13.out); rintro e w68 ⟨rfl, hy0, hb, hkp⟩; refine ⟨_, rfl, ?_⟩; replace HO_10 := Aside0.mk (Kd.R_mono (ok' := fun k_ => some k_ ≠ (.slice Ao36 t402.length co36 : Value).ownBlock ∧ some k_ ≠ (v406 : Value).ownBlock ∧ some k_ ≠ (.slice Ao59 t416.length co59 : Value).ownBlock) (Kd.R_keptB (HO_10.out) hkp (fun k_ hk_ hs_ => (hk_.1) hs_)) (fun k_ hk_ => ⟨hk_.1.1, hk_.1.2.1, hk_.1.2.2⟩)); replace HO_14 := Aside0.mk (Kd.R_mono (ok' := fun k_ => some k_ ≠ (v393 : Value).ownBlock ∧ some k_ ≠ (.slice Ao36 t402.length co36 : Value).ownBlock ∧ some k_ ≠ (.slice Ao59 t416.length co59 : Value).ownBlock) (Kd.R_keptB (HO_14.out) hkp (fun k_ hk_ hs_ => (hk_.2.1) hs_)) (fun k_ hk_ => ⟨hk_.1.1, hk_.1.2.1, hk_.1.2.2⟩)); replace HO_402002 := Aside0.mk (Kd.S_mono (ok' := fun k_ => some k_ ≠ (v393 : Value).ownBlock ∧ some k_ ≠ (.slice Ao36 t402.length co36 : Value).ownBlock ∧ some k_ ≠ (v406 : Value).ownBlock ∧ some k_ ≠ (.slice Ao59 t416.length co59 : Value).ownBlock ∧ k_ ≠ gb381 ∧ k_ ≠ gb401) (Kd.S_keptB (HO_402002.out) hkp (fun k_ hk_ hs_ => (hk_.1.1.2) hs_)) (fun k_ hk_ => ⟨hk_.1.1.1.1.2, hk_.1.1.1.2, hk_.1.1.2, hk_.1.2, hk_.1.1.1.1.1.1.2, hk_.1.1.1.1.1.2⟩)); replace BK381 := Aside0.mk (blk_kept BK381.out hkp (fun hs_ => (fun e_ => (Kd.R_ne HO_13.out BK381.out (by decide)) e_) hs_)); replace BK401 := Aside0.mk (blk_kept BK401.out hkp (fun hs_ => (fun e_ => (Kd.R_ne HO_13.out BK401.out (by decide)) e_) hs_)); replace HO_13 := Aside0.mk (Kd.R_reok rfl hy0 (fun k_ e_ => HO_13.out.1 k_ e_)); replace HO418 := Aside0.mk (Kd.R_mono (ok' := fun k_ => some k_ ≠ (v393 : Value).ownBlock ∧ some k_ ≠ (.slice Ao36 t402.length co36 : Value).ownBlock ∧ some k_ ≠ (v406 : Value).ownBlock) (Kd.R_keptB (HO418.out) hkp (fun k_ hk_ hs_ => (hk_.2.1) hs_)) (fun k_ hk_ => ⟨hk_.1.1, hk_.1.2.1, hk_.1.2.2⟩)); replace HB := Aside0.mk (hb); (try clear hb); (try clear hkp); (try clear hy0)))
        (try simp only [XW.q0, XW.q1, XW.q2])
        go_cut [90] (fun v90 wc => ∃ (kq : Nat) (x90_63 : Bool), v90 = .bool x90_63 ∧ Aside0 (laws_FnExactDropHold.j1 kq l1 a2 a3 t392 t395 t405 x90_63 a0_0 a0_1 l0_2 = some true) ∧ Aside0 (kq ≤ kj19) ∧ Aside0 (Kd.R k44 44 wc w.heap.size (fun k_ => some k_ ≠ (v406 : Value).ownBlock) v393 t392) ∧ Aside0 (Kd.R k44 44 wc w.heap.size (fun k_ => some k_ ≠ (v393 : Value).ownBlock) v406 t405) ∧ Aside0 (Kd.S k73 73 wc w.heap.size (fun _ => True) (.slice Ao32 t398.length co32) t421) ∧ Aside0 (wc.heap[gb381]? = some (.cells #[.int .i64 a0_0, .int .i64 a0_1, (.slice A0_2 l0_2.length c0_2)] 24 (0, 0))) ∧ Aside0 (wc.heap[gb401]? = some (.cells #[.int .i64 t396, .int .i64 t397, (.slice Ao32 t398.length co32)] 33 (0, 0))) ∧ Aside0 (Below w.heap.size w wc))
        case first =>
         have H := HC64.out
         clear HC64
         obtain ⟨c69b0, H⟩ | ⟨c69b0, H⟩ := Xit H
         ·(first | rw [c69b0] | (simp only [i64_w, i32_w]; rw [c69b0]) | skip)
          have H' := Aside0.mk H
          clear H
          go_wp2
          go_meet
          case rel => exact ⟨_, (true), Xr, H', ⟨by have := HJ19.out; first | omega | exact Nat.le_refl _⟩, ⟨by (with_reducible repeat (first | apply Kd.R_alloc | apply Kd.R_drewN | apply Kd.R_drew)); exact Kd.R_mono HO_10.out (fun _ hk => hk.2.1)⟩, ⟨by (with_reducible repeat (first | apply Kd.R_alloc | apply Kd.R_drewN | apply Kd.R_drew)); exact Kd.R_mono HO_14.out (fun _ hk => hk.1)⟩, ⟨by (with_reducible repeat (first | apply Kd.S_alloc | apply Kd.S_drewN | apply Kd.S_drew)); exact Kd.S_mono HO_402002.out (fun _ hk => trivial)⟩, BK381, BK401, ⟨Xi⟩⟩
         ·(first | rw [c69b0] | (simp only [i64_w, i32_w]; rw [c69b0]) | skip)
          obtain ⟨t424, A70, H⟩ := Xbi H
          (try dsimp only at H)
          by_cases c71 : t424 = true
          ·subst c71
           (first | rw [if_pos rfl] at H | skip)
           have H' := Aside0.mk H
           clear H
           obtain ⟨Ao72, co72, eo72⟩ := Kd.R_slice HO_14.out
           subst eo72
           obtain ⟨Ao73, co73, eo73⟩ := Kd.R_slice HO_10.out
           subst eo73
           go_wp2_with (first | (go_at_call 17; (with_reducible refine (laws_eqHoldS.calls kj19 _ _ t405 _ _ t392 true _ ?side1 ?side2 ?side3 ?side4 A70.out).mono ?_); (case side1 => repeat (first | exact (Kd.R_reads' HO_14.out).2.2 | (with_reducible first | refine Kd.C_alloc ?_ _ | refine Kd.C_drewN ?_ _ | refine Kd.C_drew ?_))); (case side2 => exact (Kd.R_reads' HO_14.out).2.1); (case side3 => repeat (first | exact (Kd.R_reads' HO_10.out).2.2 | (with_reducible first | refine Kd.C_alloc ?_ _ | refine Kd.C_drewN ?_ _ | refine Kd.C_drew ?_))); (case side4 => exact (Kd.R_reads' HO_10.out).2.1); rintro e w74 ⟨rfl, hb⟩; replace HO_10 := Aside0.mk (Kd.R_below (Xq HO_10) hb); replace HO_13 := Aside0.mk (Kd.R_below (Xq HO_13) hb); replace HO_14 := Aside0.mk (Kd.R_below (Xq HO_14) hb); replace HO_402002 := Aside0.mk (Kd.S_below (Xq HO_402002) hb); replace HO418 := Aside0.mk (Kd.R_below (Xq HO418) hb); replace BK381 := Xbb BK381 hb; replace BK401 := Xbb BK401 hb; replace HB := Aside0.mk (below_step Xi hb); clear hb))
           go_meet
           case rel => exact ⟨_, ((t408 != t395)), Xr, H', ⟨by have := HJ19.out; first | omega | exact Nat.le_refl _⟩, ⟨by (with_reducible repeat (first | apply Kd.R_alloc | apply Kd.R_drewN | apply Kd.R_drew)); exact Kd.R_mono HO_10.out (fun _ hk => hk.2.1)⟩, ⟨by (with_reducible repeat (first | apply Kd.R_alloc | apply Kd.R_drewN | apply Kd.R_drew)); exact Kd.R_mono HO_14.out (fun _ hk => hk.1)⟩, ⟨by (with_reducible repeat (first | apply Kd.S_alloc | apply Kd.S_drewN | apply Kd.S_drew)); exact Kd.S_mono HO_402002.out (fun _ hk => trivial)⟩, BK381, BK401, ⟨Xi⟩⟩
          ·replace c71 := Bool.eq_false_iff.mpr c71
           subst c71
           (first | rw [if_neg (show ¬ (false = true) by decide)] at H | skip)
           have H' := Aside0.mk H
           clear H
           obtain ⟨Ao75, co75, eo75⟩ := Kd.R_slice HO_14.out
           subst eo75
           obtain ⟨Ao76, co76, eo76⟩ := Kd.R_slice HO_10.out
           subst eo76
           go_wp2_with (first | (go_at_call 17; (with_reducible refine (laws_eqHoldS.calls kj19 _ _ t405 _ _ t392 false _ ?side1 ?side2 ?side3 ?side4 A70.out).mono ?_); (case side1 => repeat (first | exact (Kd.R_reads' HO_14.out).2.2 | (with_reducible first | refine Kd.C_alloc ?_ _ | refine Kd.C_drewN ?_ _ | refine Kd.C_drew ?_))); (case side2 => exact (Kd.R_reads' HO_14.out).2.1); (case side3 => repeat (first | exact (Kd.R_reads' HO_10.out).2.2 | (with_reducible first | refine Kd.C_alloc ?_ _ | refine Kd.C_drewN ?_ _ | refine Kd.C_drew ?_))); (case side4 => exact (Kd.R_reads' HO_10.out).2.1); rintro e w77 ⟨rfl, hb⟩; replace HO_10 := Aside0.mk (Kd.R_below (Xq HO_10) hb); replace HO_13 := Aside0.mk (Kd.R_below (Xq HO_13) hb); replace HO_14 := Aside0.mk (Kd.R_below (Xq HO_14) hb); replace HO_402002 := Aside0.mk (Kd.S_below (Xq HO_402002) hb); replace HO418 := Aside0.mk (Kd.R_below (Xq HO418) hb); replace BK381 := Xbb BK381 hb; replace BK401 := Xbb BK401 hb; replace HB := Aside0.mk (below_step Xi hb); clear hb))
           go_meet
           case rel => exact ⟨_, (true), Xr, H', ⟨by have := HJ19.out; first | omega | exact Nat.le_refl _⟩, ⟨by (with_reducible repeat (first | apply Kd.R_alloc | apply Kd.R_drewN | apply Kd.R_drew)); exact Kd.R_mono HO_10.out (fun _ hk => hk.2.1)⟩, ⟨by (with_reducible repeat (first | apply Kd.R_alloc | apply Kd.R_drewN | apply Kd.R_drew)); exact Kd.R_mono HO_14.out (fun _ hk => hk.1)⟩, ⟨by (with_reducible repeat (first | apply Kd.S_alloc | apply Kd.S_drewN | apply Kd.S_drew)); exact Kd.S_mono HO_402002.out (fun _ hk => trivial)⟩, BK381, BK401, ⟨Xi⟩⟩
        case rest =>
         clear HC64
         (try clear c1); (try clear c10); (try clear c10b0); (try clear c13); (try clear c13b0); (try clear c46); (try clear c54); (try clear c61); (try clear hcz21_0); (try clear hcz21_1); (try clear hcz21_2); (try clear hcz27_0); (try clear hcz27_1); (try clear hcz27_2); (try clear hcz31_0); (try clear hcz31_1); (try clear hcz31_2); (try clear hcz35_0); (try clear hcz35_1); (try clear hcz35_2); (try clear hcz66_0); (try clear hcz66_1); (try clear hcz66_2); (try clear hcz8_0); (try clear hcz8_1); (try clear hcz8_2); (try clear hfz21_0); (try clear hfz21_1); (try clear hfz21_2); (try clear hfz27_0); (try clear hfz27_1); (try clear hfz27_2); (try clear hfz31_0); (try clear hfz31_1); (try clear hfz31_2); (try clear hfz35_0); (try clear hfz35_1); (try clear hfz35_2); (try clear hfz66_0); (try clear hfz66_1); (try clear hfz66_2); (try clear hfz8_0); (try clear hfz8_1); (try clear hfz8_2)
         (try clear HO_10); (try clear HO_14); (try clear HO_402002)
         obtain ⟨kq, x90_63, rfl, HA, HJ63, HO_10, HO_14, HO_402002, BK381, BK401, HB⟩ := hcut
         have hl402002_63 := (Kd.S_reads' HO_402002.out).1
         rw [hl402002_63] at HO_402002
         (try simp only [hl402002_63])
         (try simp only [hl402002_63] at BK381)
         (try simp only [hl402002_63] at BK401)
         (try simp only [hl402002_63] at HO_10)
         (try simp only [hl402002_63] at HO_14)
         cases kq with
         | zero => cases HA.out
         | succ kj63 =>
          have H := HA.out
          clear HA
          simp only [laws_FnExactDropHold.j1] at H
          by_cases c78 : x90_63 = true
          ·subst c78
           (first | rw [if_pos rfl] at H | skip)
           cases H
          ·replace c78 := Bool.eq_false_iff.mpr c78
           subst c78
           (first | rw [if_neg (show ¬ (false = true) by decide)] at H | skip)
           replace H := Option.bind_eq_some_iff.mp H
           obtain ⟨⟨t425, t426⟩, A790, H⟩ := H
           (try dsimp only at H)
           have A79 := Aside0.mk A790
           clear A790
           obtain ⟨t427, A80, H⟩ := Xbi H
           (try dsimp only at H)
           have HC81 := Aside0.mk H
           clear H
           obtain ⟨Ao82, co82, eo82⟩ := Kd.R_slice HO_14.out
           subst eo82
           go_upto_if 98 with (first | ((with_reducible refine gate_callee (f := 20) rfl ?_); refine Xgo 93 Try.func20 #[.slice Ao82 t405.length co82, .int .i64 1] ?_; (with_reducible refine (laws_markHoldS.calls kj63 (fun k_ => some k_ = (.slice Ao82 t405.length co82 : Value).ownBlock) (.slice Ao82 t405.length co82) t405 1 t425 t426 w _ ?side1 ?side2 A79.out).mono ?_); (case side1 => exact Xi); (case side2 => exact Kd.R_tight rfl HO_14.out); rintro e w83 ⟨rfl, hy0, hb, hkp⟩; refine ⟨_, rfl, ?_⟩; replace HO_10 := Aside0.mk (Kd.R_mono (ok' := fun k_ => some k_ ≠ (.slice Ao82 t405.length co82 : Value).ownBlock) (Kd.R_keptB (HO_10.out) hkp (fun k_ hk_ hs_ => (hk_) hs_)) (fun k_ hk_ => hk_.1)); replace HO_402002 := Aside0.mk (Kd.S_mono (ok' := fun k_ => True) (Kd.S_keptB ((Kd.S_apart' HO_402002.out (Kd.R_typed HO_14.out) (by decide))) hkp (fun k_ hk_ hs_ => (hk_.2) hs_)) (fun k_ hk_ => trivial)); replace BK381 := Aside0.mk (blk_kept BK381.out hkp (fun hs_ => (fun e_ => (Kd.R_ne HO_14.out BK381.out (by decide)) e_) hs_)); replace BK401 := Aside0.mk (blk_kept BK401.out hkp (fun hs_ => (fun e_ => (Kd.R_ne HO_14.out BK401.out (by decide)) e_) hs_)); replace HO_14 := Aside0.mk (Kd.R_reok rfl hy0 (fun k_ e_ => HO_14.out.1 k_ e_)); replace HB := Aside0.mk (hb); (try clear hb); (try clear hkp); (try clear hy0)) | ((with_reducible refine gate_callee (f := 21) rfl ?_); refine goesL_ (some 96) rfl rfl Try.func21 (by kernel_rfl) rfl #[.slice Ao82 t426.length co82, .int .i64 1] rfl (by (try simp only [List.map_toArray, List.map_cons, List.map_nil]); first | done | (rw [show t426.length = t405.length from (Kd.R_reads' HO_14.out).1.symm] <;> rfl) | rfl | (simp only [List.length_drop, List.length_take]; rfl)) ?_; (with_reducible refine (laws_heldHoldS.calls kj63 _ _ t426 1 t427 _ ?side1 ?side2 A80.out).mono ?_); (case side1 => repeat (first | exact (Kd.R_reads' HO_14.out).2.2 | (with_reducible first | refine Kd.C_alloc ?_ _ | refine Kd.C_drewN ?_ _ | refine Kd.C_drew ?_))); (case side2 => rw [show t426.length = t405.length from (Kd.R_reads' HO_14.out).1.symm]; exact (Kd.R_reads' HO_14.out).2.1); rintro e w' ⟨rfl, ⟨nd, rfl⟩⟩; refine ⟨_, rfl, ?_⟩))
           (try (rw [drewN_self w83]; generalize hq_ : World.drewN w83 _ = w83; have n0_ : Aside0 (Kd.R k44 44 w83 w.heap.size (fun k_ => some k_ ≠ (.slice Ao82 t405.length co82 : Value).ownBlock) v393 t392) := ⟨by rw [← hq_]; exact (Xq HO_10)⟩; have n1_ : Aside0 (Kd.R k44 44 w83 w.heap.size (fun k_ => some k_ ≠ (v393 : Value).ownBlock) (.slice Ao82 t405.length co82) t426) := ⟨by rw [← hq_]; exact (Xq HO_14)⟩; have n2_ : Aside0 (Kd.S k73 73 w83 w.heap.size (fun _ => True) (.slice Ao32 t421.length co32) t421) := ⟨by rw [← hq_]; exact (Xq HO_402002)⟩; have n3_ : Aside0 (w83.heap[gb381]? = some (.cells #[.int .i64 a0_0, .int .i64 a0_1, .slice A0_2 l0_2.length c0_2] 24 (0, 0))) := ⟨by rw [← hq_]; exact BK381.out⟩; have n4_ : Aside0 (w83.heap[gb401]? = some (.cells #[.int .i64 t396, .int .i64 t397, .slice Ao32 t421.length co32] 33 (0, 0))) := ⟨by rw [← hq_]; exact BK401.out⟩; have n5_ : Aside0 (Below w.heap.size w w83) := ⟨by rw [← hq_]; exact Xi⟩; clear HO_10 HO_14 HO_402002 BK381 BK401 HB hq_; have HO_10 := n0_; have HO_14 := n1_; have HO_402002 := n2_; have BK381 := n3_; have BK401 := n4_; have HB := n5_; clear n0_ n1_ n2_ n3_ n4_ n5_))
           have H := HC81.out
           clear HC81
           obtain ⟨c84b0, H⟩ | ⟨c84b0, H⟩ := Xit H
           ·(first | rw [c84b0] | (simp only [i64_w, i32_w]; rw [c84b0]) | skip)
            cases H
           ·(first | rw [c84b0] | (simp only [i64_w, i32_w]; rw [c84b0]) | skip)
            obtain ⟨c85, H⟩ | ⟨c85, H⟩ := Xiu H
            ·have c85b0 : (t427 == t425) = true := beq_iff_eq.mpr c85
             have c85b1 : (t427 != t425) = false := bne_eq_false_iff_eq.mpr c85
             clear c85
             replace H := Option.bind_eq_some_iff.mp H
             obtain ⟨⟨t428, t429, t430⟩, A860, H⟩ := H
             (try dsimp only at H)
             have A86 := Aside0.mk A860
             clear A860
             obtain ⟨t433, A87, H⟩ := Xbi H
             (try dsimp only at H)
             replace H := Option.bind_eq_some_iff.mp H
             obtain ⟨⟨t436, t439⟩, A880, H⟩ := H
             (try dsimp only at H)
             have A88 := Aside0.mk A880
             clear A880
             have HC89 := Aside0.mk H
             clear H
             have hnb90 := NB381_401.out
             have hnc90 := NB401_381.out
             obtain ⟨hcz91_0, hcz91_1, hcz91_2⟩ := Xc3 BK381
             obtain ⟨hfz91_0, hfz91_1, hfz91_2⟩ := Xf3 BK381
             go_upto_region 32 with (first | ((with_reducible refine gate_callee (f := 14) rfl ?_); refine Xgo 104 Try.func14 #[.agg #[.int .i64 a0_0, .int .i64 a0_1, .slice A0_2 l0_2.length c0_2]] ?_; (with_reducible refine (laws_toDoc.calls kj63 a0_0 a0_1 _ _ l0_2 t428 t429 t430 _ ?side1 ?side2 A86.out).mono ?_); (case side1 => exact Xc HR0_2); (case side2 => exact HC0_2.out); rintro e w92 ⟨v431, rfl, ho0, hb⟩; refine ⟨_, rfl, ?_⟩; replace HO_10 := Aside0.mk (Kd.R_below (Xq HO_10) hb); replace HO_14 := Aside0.mk (Kd.R_below (Xq HO_14) hb); have HO432 := Aside0.mk (Kd.S_lower (Kd.S_new' ho0 (Kd.S_lt (Xq HO_402002))) (below_size Xi)); replace HO_402002 := Aside0.mk (Kd.S_elder' (Xq HO_402002) (Kd.S_base ho0) hb); replace BK381 := Xbb BK381 hb; replace BK401 := Xbb BK401 hb; replace HB := Aside0.mk (below_step Xi hb); clear hb; (try clear ho0)) | ((with_reducible refine gate_callee (f := 15) rfl ?_); refine Xgo 106 Try.func15 #[.slice A1 l1.length c1] ?_; (with_reducible refine (laws_toHoldS.calls kj63 _ _ l1 t433 _ ?side1 ?side2 A87.out).mono ?_); (case side1 => exact Xc HR1); (case side2 => exact HC1.out); rintro e w93 ⟨v434, rfl, ho0, hb⟩; refine ⟨_, rfl, ?_⟩; replace HO_402002 := Aside0.mk (Kd.S_below (Xq HO_402002) hb); replace HO432 := Aside0.mk (Kd.S_below (Xq HO432) hb); have HO435 := Aside0.mk (Kd.R_lower (Kd.R_new' (Kd.R_new' ho0 (Kd.R_lt (Xq HO_10))) (Kd.R_lt (Xq HO_14))) (below_size Xi)); replace HO_10 := Aside0.mk (Kd.R_elder' (Xq HO_10) (Kd.R_base ho0) hb); replace HO_14 := Aside0.mk (Kd.R_elder' (Xq HO_14) (Kd.R_base ho0) hb); replace BK381 := Xbb BK381 hb; replace BK401 := Xbb BK401 hb; replace HB := Aside0.mk (below_step Xi hb); clear hb; (try clear ho0); obtain ⟨Ao94, co94, eo94⟩ := Kd.S_slice HO432.out; subst eo94; obtain ⟨Ao95, co95, eo95⟩ := Kd.R_slice HO435.out; subst eo95) | ((with_reducible refine gate_callee (f := 16) rfl ?_); refine Xgo 109 Try.func16 #[.agg #[.int .i64 t428, .int .i64 t429, .slice Ao94 t430.length co94], .slice Ao95 t433.length co95, .int .i64 a2, .int .i64 a3] ?_; (with_reducible refine (impl_DropHold.calls kj63 t428 t429 _ _ t430 _ _ t433 a2 a3 t436 t439 _ ?side1 ?side2 ?side3 ?side4 A88.out).mono ?_); (case side1 => repeat (first | exact (Kd.S_reads' HO432.out).2.2 | (with_reducible first | refine Kd.C_alloc ?_ _ | refine Kd.C_drewN ?_ _ | refine Kd.C_drew ?_))); (case side2 => exact (Kd.S_reads' HO432.out).2.1); (case side3 => repeat (first | exact (Kd.R_reads' HO435.out).2.2 | (with_reducible first | refine Kd.C_alloc ?_ _ | refine Kd.C_drewN ?_ _ | refine Kd.C_drew ?_))); (case side4 => exact (Kd.R_reads' HO435.out).2.1); rintro e w96 ⟨v437, rfl, ho0, hb⟩; refine ⟨_, rfl, ?_⟩; replace HO_402002 := Aside0.mk (Kd.S_below (Xq HO_402002) hb); replace HO432 := Aside0.mk (Kd.S_below (Xq HO432) hb); have HO438 := Aside0.mk (Kd.R_lower (Kd.R_new' (Kd.R_new' (Kd.R_new' ho0 (Kd.R_lt (Xq HO_10))) (Kd.R_lt (Xq HO_14))) (Kd.R_lt (Xq HO435))) (below_size Xi)); replace HO_10 := Aside0.mk (Kd.R_elder' (Xq HO_10) (Kd.R_base ho0) hb); replace HO_14 := Aside0.mk (Kd.R_elder' (Xq HO_14) (Kd.R_base ho0) hb); replace HO435 := Aside0.mk (Kd.R_elder' (Xq HO435) (Kd.R_base ho0) hb); replace BK381 := Xbb BK381 hb; replace BK401 := Xbb BK401 hb; replace HB := Aside0.mk (below_step Xi hb); clear hb; (try clear ho0)))
             (try simp only [XW.q0, XW.q1, XW.q2])
             go_cut [120] (fun v120 wc => ∃ (kq : Nat) (x120_88 : Bool), v120 = .bool x120_88 ∧ Aside0 (laws_FnExactDropHold.j2 kq t426 t425 x120_88 = some true) ∧ Aside0 (kq ≤ kj63) ∧ Aside0 (Kd.R k44 44 wc w.heap.size (fun _ => True) (.slice Ao82 t405.length co82) t426) ∧ Aside0 (Kd.S k73 73 wc w.heap.size (fun _ => True) (.slice Ao32 t421.length co32) t421) ∧ Aside0 (wc.heap[gb381]? = some (.cells #[.int .i64 a0_0, .int .i64 a0_1, (.slice A0_2 l0_2.length c0_2)] 24 (0, 0))) ∧ Aside0 (wc.heap[gb401]? = some (.cells #[.int .i64 t396, .int .i64 t397, (.slice Ao32 t421.length co32)] 33 (0, 0))) ∧ Aside0 (Below w.heap.size w wc))
             case first =>
              have H := HC89.out
              clear HC89
              obtain ⟨t440, A97, H⟩ := Xbi H
              (try dsimp only at H)
              by_cases c98 : t440 = true
              ·subst c98
               (first | rw [if_pos rfl] at H | skip)
               have H' := Aside0.mk H
               clear H
               obtain ⟨Ao99, co99, eo99⟩ := Kd.R_slice HO438.out
               subst eo99
               obtain ⟨Ao100, co100, eo100⟩ := Kd.R_slice HO_10.out
               subst eo100
               go_wp2_with (first | ((with_reducible refine gate_callee (f := 17) rfl ?_); refine Xgo 114 Try.func17 #[.slice Ao99 t436.length co99, .slice Ao100 t392.length co100] ?_; (with_reducible refine (laws_eqHoldS.calls kj63 _ _ t436 _ _ t392 true _ ?side1 ?side2 ?side3 ?side4 A97.out).mono ?_); (case side1 => repeat (first | exact (Kd.R_reads' HO438.out).2.2 | (with_reducible first | refine Kd.C_alloc ?_ _ | refine Kd.C_drewN ?_ _ | refine Kd.C_drew ?_))); (case side2 => exact (Kd.R_reads' HO438.out).2.1); (case side3 => repeat (first | exact (Kd.R_reads' HO_10.out).2.2 | (with_reducible first | refine Kd.C_alloc ?_ _ | refine Kd.C_drewN ?_ _ | refine Kd.C_drew ?_))); (case side4 => exact (Kd.R_reads' HO_10.out).2.1); rintro e w101 ⟨rfl, hb⟩; refine ⟨_, rfl, ?_⟩; replace HO_10 := Aside0.mk (Kd.R_below (Xq HO_10) hb); replace HO_14 := Aside0.mk (Kd.R_below (Xq HO_14) hb); replace HO_402002 := Aside0.mk (Kd.S_below (Xq HO_402002) hb); replace HO432 := Aside0.mk (Kd.S_below (Xq HO432) hb); replace HO435 := Aside0.mk (Kd.R_below (Xq HO435) hb); replace HO438 := Aside0.mk (Kd.R_below (Xq HO438) hb); replace BK381 := Xbb BK381 hb; replace BK401 := Xbb BK401 hb; replace HB := Aside0.mk (below_step Xi hb); clear hb))
               go_meet
               case rel => exact ⟨_, ((t439 != t395)), Xr, H', ⟨by have := HJ19.out; have := HJ63.out; first | omega | exact Nat.le_refl _⟩, ⟨by (try simp only [hl402002_63]); (with_reducible repeat (first | apply Kd.R_alloc | apply Kd.R_drewN | apply Kd.R_drew)); exact Kd.R_mono HO_14.out (fun _ hk => trivial)⟩, ⟨by (try simp only [hl402002_63]); (with_reducible repeat (first | apply Kd.S_alloc | apply Kd.S_drewN | apply Kd.S_drew)); exact Kd.S_mono HO_402002.out (fun _ hk => trivial)⟩, ⟨by (try simp only [hl402002_63]); exact BK381.out⟩, ⟨by (try simp only [hl402002_63]); exact BK401.out⟩, ⟨Xi⟩⟩
              ·replace c98 := Bool.eq_false_iff.mpr c98
               subst c98
               (first | rw [if_neg (show ¬ (false = true) by decide)] at H | skip)
               have H' := Aside0.mk H
               clear H
               obtain ⟨Ao102, co102, eo102⟩ := Kd.R_slice HO438.out
               subst eo102
               obtain ⟨Ao103, co103, eo103⟩ := Kd.R_slice HO_10.out
               subst eo103
               go_wp2_with (first | ((with_reducible refine gate_callee (f := 17) rfl ?_); refine Xgo 114 Try.func17 #[.slice Ao102 t436.length co102, .slice Ao103 t392.length co103] ?_; (with_reducible refine (laws_eqHoldS.calls kj63 _ _ t436 _ _ t392 false _ ?side1 ?side2 ?side3 ?side4 A97.out).mono ?_); (case side1 => repeat (first | exact (Kd.R_reads' HO438.out).2.2 | (with_reducible first | refine Kd.C_alloc ?_ _ | refine Kd.C_drewN ?_ _ | refine Kd.C_drew ?_))); (case side2 => exact (Kd.R_reads' HO438.out).2.1); (case side3 => repeat (first | exact (Kd.R_reads' HO_10.out).2.2 | (with_reducible first | refine Kd.C_alloc ?_ _ | refine Kd.C_drewN ?_ _ | refine Kd.C_drew ?_))); (case side4 => exact (Kd.R_reads' HO_10.out).2.1); rintro e w104 ⟨rfl, hb⟩; refine ⟨_, rfl, ?_⟩; replace HO_10 := Aside0.mk (Kd.R_below (Xq HO_10) hb); replace HO_14 := Aside0.mk (Kd.R_below (Xq HO_14) hb); replace HO_402002 := Aside0.mk (Kd.S_below (Xq HO_402002) hb); replace HO432 := Aside0.mk (Kd.S_below (Xq HO432) hb); replace HO435 := Aside0.mk (Kd.R_below (Xq HO435) hb); replace HO438 := Aside0.mk (Kd.R_below (Xq HO438) hb); replace BK381 := Xbb BK381 hb; replace BK401 := Xbb BK401 hb; replace HB := Aside0.mk (below_step Xi hb); clear hb))
               go_meet
               case rel => exact ⟨_, (true), Xr, H', ⟨by have := HJ19.out; have := HJ63.out; first | omega | exact Nat.le_refl _⟩, ⟨by (try simp only [hl402002_63]); (with_reducible repeat (first | apply Kd.R_alloc | apply Kd.R_drewN | apply Kd.R_drew)); exact Kd.R_mono HO_14.out (fun _ hk => trivial)⟩, ⟨by (try simp only [hl402002_63]); (with_reducible repeat (first | apply Kd.S_alloc | apply Kd.S_drewN | apply Kd.S_drew)); exact Kd.S_mono HO_402002.out (fun _ hk => trivial)⟩, ⟨by (try simp only [hl402002_63]); exact BK381.out⟩, ⟨by (try simp only [hl402002_63]); exact BK401.out⟩, ⟨Xi⟩⟩
             case rest =>
              clear HC89
              (try clear c1); (try clear c10); (try clear c10b0); (try clear c13); (try clear c13b0); (try clear c46); (try clear c54); (try clear c61); (try clear c78); (try clear c84); (try clear c84b0); (try clear c85); (try clear c85b0); (try clear c85b1); (try clear hcz21_0); (try clear hcz21_1); (try clear hcz21_2); (try clear hcz27_0); (try clear hcz27_1); (try clear hcz27_2); (try clear hcz31_0); (try clear hcz31_1); (try clear hcz31_2); (try clear hcz35_0); (try clear hcz35_1); (try clear hcz35_2); (try clear hcz66_0); (try clear hcz66_1); (try clear hcz66_2); (try clear hcz8_0); (try clear hcz8_1); (try clear hcz8_2); (try clear hcz91_0); (try clear hcz91_1); (try clear hcz91_2); (try clear hfz21_0); (try clear hfz21_1); (try clear hfz21_2); (try clear hfz27_0); (try clear hfz27_1); (try clear hfz27_2); (try clear hfz31_0); (try clear hfz31_1); (try clear hfz31_2); (try clear hfz35_0); (try clear hfz35_1); (try clear hfz35_2); (try clear hfz66_0); (try clear hfz66_1); (try clear hfz66_2); (try clear hfz8_0); (try clear hfz8_1); (try clear hfz8_2); (try clear hfz91_0); (try clear hfz91_1); (try clear hfz91_2)
              (try clear HO_14); (try clear HO_402002)
              obtain ⟨kq, x120_88, rfl, HA, HJ88, HO_14, HO_402002, BK381, BK401, HB⟩ := hcut
              have hl14_88 := (Kd.R_reads' HO_14.out).1
              rw [hl14_88] at HO_14
              (try simp only [hl14_88])
              (try simp only [hl14_88] at BK381)
              (try simp only [hl14_88] at BK401)
              (try simp only [hl14_88] at HO_402002)
              cases kq with
              | zero => cases HA.out
              | succ kj88 =>
               have H := HA.out
               clear HA
               simp only [laws_FnExactDropHold.j2] at H
               by_cases c105 : x120_88 = true
               ·subst c105
                (first | rw [if_pos rfl] at H | skip)
                cases H
               ·replace c105 := Bool.eq_false_iff.mpr c105
                subst c105
                (first | rw [if_neg (show ¬ (false = true) by decide)] at H | skip)
                obtain ⟨t441, A106, H⟩ := Xbi H
                (try dsimp only at H)
                have HC107 := Aside0.mk H
                clear H
                go_upto_if 125 with (first | ((with_reducible refine gate_callee (f := 21) rfl ?_); refine Xgo 123 Try.func21 #[.slice Ao82 t426.length co82, .int .i64 1] ?_; (with_reducible refine (laws_heldHoldS.calls kj88 _ _ t426 1 t441 _ ?side1 ?side2 A106.out).mono ?_); (case side1 => repeat (first | exact (Kd.R_reads' HO_14.out).2.2 | (with_reducible first | refine Kd.C_alloc ?_ _ | refine Kd.C_drewN ?_ _ | refine Kd.C_drew ?_))); (case side2 => exact (Kd.R_reads' HO_14.out).2.1); rintro e w' ⟨rfl, ⟨nd, rfl⟩⟩; refine ⟨_, rfl, ?_⟩))
                (try (rw [drewN_self wc]; generalize hq_ : World.drewN wc _ = wc; have n0_ : Aside0 (Kd.R k44 44 wc w.heap.size (fun _ => True) (.slice Ao82 t426.length co82) t426) := ⟨by rw [← hq_]; exact (Xq HO_14)⟩; have n1_ : Aside0 (Kd.S k73 73 wc w.heap.size (fun _ => True) (.slice Ao32 t421.length co32) t421) := ⟨by rw [← hq_]; exact (Xq HO_402002)⟩; have n2_ : Aside0 (wc.heap[gb381]? = some (.cells #[.int .i64 a0_0, .int .i64 a0_1, .slice A0_2 l0_2.length c0_2] 24 (0, 0))) := ⟨by rw [← hq_]; exact BK381.out⟩; have n3_ : Aside0 (wc.heap[gb401]? = some (.cells #[.int .i64 t396, .int .i64 t397, .slice Ao32 t421.length co32] 33 (0, 0))) := ⟨by rw [← hq_]; exact BK401.out⟩; have n4_ : Aside0 (Below w.heap.size w wc) := ⟨by rw [← hq_]; exact Xi⟩; clear HO_14 HO_402002 BK381 BK401 HB hq_; have HO_14 := n0_; have HO_402002 := n1_; have BK381 := n2_; have BK401 := n3_; have HB := n4_; clear n0_ n1_ n2_ n3_ n4_))
                have H := HC107.out
                clear HC107
                obtain ⟨c108b0, H⟩ | ⟨c108b0, H⟩ := Xit H
                ·(first | rw [c108b0] | (simp only [i64_w, i32_w]; rw [c108b0]) | skip)
                 cases H
                ·(first | rw [c108b0] | (simp only [i64_w, i32_w]; rw [c108b0]) | skip)
                 obtain ⟨c109, H⟩ | ⟨c109, H⟩ := Xiu H
                 ·have c109b0 : (t441 == t425) = true := beq_iff_eq.mpr c109
                  have c109b1 : (t441 != t425) = false := bne_eq_false_iff_eq.mpr c109
                  clear c109
                  go_wp2
                  go_ret
                  exact ⟨Xe, Xi⟩
                 ·have c109b0 : (t441 == t425) = false := beq_eq_false_iff_ne.mpr c109
                  have c109b1 : (t441 != t425) = true := bne_iff_ne.mpr c109
                  cases H
            ·have c85b0 : (t427 == t425) = false := beq_eq_false_iff_ne.mpr c85
             have c85b1 : (t427 != t425) = true := bne_iff_ne.mpr c85
             cases H
       ·replace c61 := Bool.eq_false_iff.mpr c61
        subst c61
        (first | rw [if_neg (show ¬ (false = true) by decide)] at H | skip)
        cases H
      ·replace c54 := Bool.eq_false_iff.mpr c54
       subst c54
       (first | rw [if_neg (show ¬ (false = true) by decide)] at H | skip)
       cases H

end Go.Proofs.Ytahhgjkgfbppeaa.XA
