/- Contracts of the program's functions: each Go function that is named below comes to what its Lean function says. Written by xprint.py (a program of this session's, over the kit's print). Conditions: each contract's own premises. -/
import Derived.Test.YtpdhccdmbdbdpaaYInOrder0
import Derived.Test.YtpdhccdmbdbdpaaYInOrder1
import Derived.Test.YtpdhccdmbdbdpaaYInOrder2
import Derived.Test.YtpdhccdmbdbdpaaYInOrder5
import Derived.Test.YtpdhccdmbdbdpaaYInOrder9
import Derived.Test.YtpdhccdmbdbdpaaYInOrderMarkDoc
namespace Go.Proofs.Ytpdhccdmbdbdpaa.XA
open Go.RowKit Go.Proofs.YtpdhccdmbdbdpaaW.PrintWords Go.Proofs.YtpdhccdmbdbdpaaW.PrintLast Go.Proofs.YtpdhccdmbdbdpaaW.PrintMore XW
attribute [local go_sem] max2_int min2_int max_two min_two max_three min_three max_four min_four   -- for this text's walks alone
set_option linter.unusedVariables false
set_option linter.unusedSimpArgs false

/-! ### laws_FnExactInOrder: function 6 -/
mutual
def laws_FnExactInOrder.j0 : Nat → Int → List Int → Int → List Int → Int → Bool → Int → Int → List (S112) → Int → Int → List (S43) → Option (Bool)
 | 0, _, _, _, _, _, _, _, _, _, _, _, _ => none
 | k + 1, x1, x6, x7, x9, x10, x44, x274000, x274001, x274002, x290000, x290001, x290002 => if x44 = true then (some false) else ((laws_toDoc.f k x274000 x274001 x274002).bind fun bt295 => ((laws_eqDoc.f k x290000 x290001 x290002 bt295.1 bt295.2.1 bt295.2.2).bind fun t300 => (if t300 = true then ((laws_markDoc.f k x290000 x290001 x290002 1).bind fun bt301 => (if bt301.1 < 0 then (laws_FnExactInOrder.j1 k x1 x6 x7 x9 true x274000 x274001 x274002) else ((laws_eqIntS.f k x9 x6).bind fun t303 => (if t303 = true then (laws_FnExactInOrder.j1 k x1 x6 x7 x9 (x10 != x7) x274000 x274001 x274002) else (laws_FnExactInOrder.j1 k x1 x6 x7 x9 true x274000 x274001 x274002))))) else (some false))))
def laws_FnExactInOrder.j1 : Nat → Int → List Int → Int → List Int → Bool → Int → Int → List (S112) → Option (Bool)
 | 0, _, _, _, _, _, _, _, _ => none
 | k + 1, x1, x6, x7, x9, x65, x274000, x274001, x274002 => if x65 = true then (some false) else ((laws_markIntS.f k x9 1).bind fun bt304 => ((laws_heldIntS.f k bt304.2 1).bind fun t306 => (if t306 < 0 then (some false) else (if t306 = bt304.1 then ((laws_toDoc.f k x274000 x274001 x274002).bind fun bt307 => ((impl_InOrder.f k bt307.1 bt307.2.1 bt307.2.2 x1).bind fun bt312 => ((laws_eqIntS.f k bt312.1 x6).bind fun t316 => (if t316 = true then (laws_FnExactInOrder.j2 k bt304.2 bt304.1 (bt312.2 != x7)) else (laws_FnExactInOrder.j2 k bt304.2 bt304.1 true))))) else (some false)))))
def laws_FnExactInOrder.j2 : Nat → List Int → Int → Bool → Option (Bool)
 | 0, _, _, _ => none
 | k + 1, x9, x12, x92 => if x92 = true then (some false) else ((laws_heldIntS.f k x9 1).bind fun t317 => (if t317 < 0 then (some false) else (if t317 = x12 then (some true) else (some false))))
end
def laws_FnExactInOrder.f (k : Nat) (a0_0 : Int) (a0_1 : Int) (l0_2 : List (S112)) (a1 : Int) : Option (Bool) := (laws_szDoc.f k a0_0 a0_1 l0_2 1048576).bind fun t274 => (if t274 < 0 then (some true) else ((laws_toDoc.f k a0_0 a0_1 l0_2).bind fun bt275 => ((spec_InOrder.f k bt275.1 bt275.2.1 bt275.2.2 a1).bind fun bt280 => ((laws_toDoc.f k a0_0 a0_1 l0_2).bind fun bt284 => ((impl_InOrder.f k bt284.1 bt284.2.1 bt284.2.2 a1).bind fun bt290 => ((laws_eqIntS.f k bt290.1 bt280.1).bind fun t294 => (if t294 = true then (laws_FnExactInOrder.j0 k a1 bt280.1 bt280.2 bt290.1 bt290.2 (bt290.2 != bt280.2) a0_0 a0_1 l0_2 bt284.1 bt284.2.1 bt284.2.2) else (laws_FnExactInOrder.j0 k a1 bt280.1 bt280.2 bt290.1 bt290.2 true a0_0 a0_1 l0_2 bt284.1 bt284.2.1 bt284.2.2))))))))
set_option maxHeartbeats 8000000 in
set_option maxRecDepth 100000 in
theorem laws_FnExactInOrder.calls (k : Nat) (a0_0 : Int) (a0_1 : Int) (A0_2 : Option Addr) (c0_2 : Nat) (l0_2 : List (S112)) (a1 : Int) (r : Bool) (w : World) (hr0_2 : Kd.C k112 w A0_2 l0_2.length l0_2) (hc0_2 : l0_2.length ≤ c0_2) (hr_ : r = true) (h : laws_FnExactInOrder.f k a0_0 a0_1 l0_2 a1 = some r) :
  Calls Try.prog 6 #[.agg #[.int .i64 a0_0, .int .i64 a0_1, .slice A0_2 l0_2.length c0_2], .int .i64 a1] w fun e w' => e = .returned (.bool r) ∧ Below w.heap.size w w' := by
 subst hr_
 have hu24 := Try.underlying24
 have hu29 := Try.underlying29
 have HR0_2 := Aside0.mk hr0_2
 have HC0_2 := Aside0.mk hc0_2
 clear hr0_2 hc0_2
 have HB := Aside0.mk (Below.refl w.heap.size w)
 have H : ((laws_szDoc.f k a0_0 a0_1 l0_2 1048576).bind fun t274 => (if t274 < 0 then (some true) else ((laws_toDoc.f k a0_0 a0_1 l0_2).bind fun bt275 => ((spec_InOrder.f k bt275.1 bt275.2.1 bt275.2.2 a1).bind fun bt280 => ((laws_toDoc.f k a0_0 a0_1 l0_2).bind fun bt284 => ((impl_InOrder.f k bt284.1 bt284.2.1 bt284.2.2 a1).bind fun bt290 => ((laws_eqIntS.f k bt290.1 bt280.1).bind fun t294 => (if t294 = true then (laws_FnExactInOrder.j0 k a1 bt280.1 bt280.2 bt290.1 bt290.2 (bt290.2 != bt280.2) a0_0 a0_1 l0_2 bt284.1 bt284.2.1 bt284.2.2) else (laws_FnExactInOrder.j0 k a1 bt280.1 bt280.2 bt290.1 bt290.2 true a0_0 a0_1 l0_2 bt284.1 bt284.2.1 bt284.2.2))))))))) = some true := h
 clear h
 obtain ⟨t274, A3, H⟩ := Xbi H
 (try dsimp only at H)
 have HC4 := Aside0.mk H
 clear H
 go_enter Try.func6, Try.ntmps6
 go_upto_if 20 with (first | ((with_reducible refine gate_dst (N := 2) rfl ?_); refine Xbox 2 #[.int .i64 a0_0, .int .i64 a0_1, .slice A0_2 l0_2.length c0_2] 24 ?_; intro gb273 hg w5 hbox hb; have BK273 := Aside0.mk (hbox); have GE273 := Xge hg Xi; replace HB := Aside0.mk (below_step Xi hb); clear hb hbox hg; obtain ⟨hcz6_0, hcz6_1, hcz6_2⟩ := Xc3 BK273; obtain ⟨hfz6_0, hfz6_1, hfz6_2⟩ := Xf3 BK273) | ((with_reducible refine gate_callee (f := 13) rfl ?_); refine Xgo 18 Try.func13 #[.agg #[.int .i64 a0_0, .int .i64 a0_1, .slice A0_2 l0_2.length c0_2], .int .i64 1048576] ?_; (with_reducible refine (laws_szDoc.calls k a0_0 a0_1 _ _ l0_2 1048576 t274 _ ?side1 ?side2 A3.out).mono ?_); (case side1 => exact Xc HR0_2); (case side2 => exact HC0_2.out); rintro e w7 ⟨rfl, hb⟩; refine ⟨_, rfl, ?_⟩; replace BK273 := Xbb BK273 hb; replace HB := Aside0.mk (below_step Xi hb); clear hb))
 have H := HC4.out
 clear HC4
 obtain ⟨c8b0, H⟩ | ⟨c8b0, H⟩ := Xit H
 ·(first | rw [c8b0] | (simp only [i64_w, i32_w]; rw [c8b0]) | skip)
  go_wp2
  go_ret
  exact ⟨Xe, Xi⟩
 ·(first | rw [c8b0] | (simp only [i64_w, i32_w]; rw [c8b0]) | skip)
  replace H := Option.bind_eq_some_iff.mp H
  obtain ⟨⟨t275, t276, t277⟩, A90, H⟩ := H
  (try dsimp only at H)
  have A9 := Aside0.mk A90
  clear A90
  replace H := Option.bind_eq_some_iff.mp H
  obtain ⟨⟨t280, t283⟩, A100, H⟩ := H
  (try dsimp only at H)
  have A10 := Aside0.mk A100
  clear A100
  replace H := Option.bind_eq_some_iff.mp H
  obtain ⟨⟨t284, t285, t286⟩, A110, H⟩ := H
  (try dsimp only at H)
  have A11 := Aside0.mk A110
  clear A110
  replace H := Option.bind_eq_some_iff.mp H
  obtain ⟨⟨t290, t293⟩, A120, H⟩ := H
  (try dsimp only at H)
  have A12 := Aside0.mk A120
  clear A120
  have HC13 := Aside0.mk H
  clear H
  obtain ⟨hcz14_0, hcz14_1, hcz14_2⟩ := Xc3 BK273
  obtain ⟨hfz14_0, hfz14_1, hfz14_2⟩ := Xf3 BK273
  go_upto_region 8 with (first | ((with_reducible refine gate_callee (f := 15) rfl ?_); refine Xgo 23 Try.func15 #[.agg #[.int .i64 a0_0, .int .i64 a0_1, .slice A0_2 l0_2.length c0_2]] ?_; (with_reducible refine (laws_toDoc.calls k a0_0 a0_1 _ _ l0_2 t275 t276 t277 _ ?side1 ?side2 A9.out).mono ?_); (case side1 => exact Xc HR0_2); (case side2 => exact HC0_2.out); rintro e w15 ⟨v278, rfl, ho0, hb⟩; refine ⟨_, rfl, ?_⟩; have HO279 := Aside0.mk (Kd.S_lower ho0 (below_size Xi)); replace BK273 := Xbb BK273 hb; replace HB := Aside0.mk (below_step Xi hb); clear hb; (try clear ho0); obtain ⟨Ao16, co16, eo16⟩ := Kd.S_slice HO279.out; subst eo16) | ((with_reducible refine gate_callee (f := 22) rfl ?_); refine Xgo 25 Try.func22 #[.agg #[.int .i64 t275, .int .i64 t276, .slice Ao16 t277.length co16], .int .i64 a1] ?_; (with_reducible refine (spec_InOrder.calls k t275 t276 _ _ t277 a1 t280 t283 _ ?side1 ?side2 A10.out).mono ?_); (case side1 => repeat (first | exact (Kd.S_reads' HO279.out).2.2 | (with_reducible first | refine Kd.C_alloc ?_ _ | refine Kd.C_drewN ?_ _ | refine Kd.C_drew ?_))); (case side2 => exact (Kd.S_reads' HO279.out).2.1); rintro e w17 ⟨v281, rfl, ho0, hb⟩; refine ⟨_, rfl, ?_⟩; replace HO279 := Aside0.mk (Kd.S_elder' (Xq HO279) (Kd.R_base ho0) hb); have HO282 := Aside0.mk (Kd.R_lower ho0 (below_size Xi)); replace BK273 := Xbb BK273 hb; replace HB := Aside0.mk (below_step Xi hb); clear hb; (try clear ho0); obtain ⟨hcz18_0, hcz18_1, hcz18_2⟩ := Xc3 BK273; obtain ⟨hfz18_0, hfz18_1, hfz18_2⟩ := Xf3 BK273) | ((with_reducible refine gate_callee (f := 15) rfl ?_); refine Xgo 29 Try.func15 #[.agg #[.int .i64 a0_0, .int .i64 a0_1, .slice A0_2 l0_2.length c0_2]] ?_; (with_reducible refine (laws_toDoc.calls k a0_0 a0_1 _ _ l0_2 t284 t285 t286 _ ?side1 ?side2 A11.out).mono ?_); (case side1 => exact Xc HR0_2); (case side2 => exact HC0_2.out); rintro e w19 ⟨v287, rfl, ho0, hb⟩; refine ⟨_, rfl, ?_⟩; have HO288 := Aside0.mk (Kd.S_lower (Kd.S_new' (Kd.S_new' ho0 (Kd.S_lt (Xq HO279))) (Kd.R_lt (Xq HO282))) (below_size Xi)); replace HO279 := Aside0.mk (Kd.S_elder' (Xq HO279) (Kd.S_base ho0) hb); replace HO282 := Aside0.mk (Kd.R_below (Xq HO282) hb); replace BK273 := Xbb BK273 hb; replace HB := Aside0.mk (below_step Xi hb); clear hb; (try clear ho0)) | ((with_reducible refine gate_dst (N := 8) rfl ?_); refine Xbox 8 #[.int .i64 0, .int .i64 0, .slice none 0 0] 29 ?_; intro gb289 hg w20 hbox hb; replace HO279 := Aside0.mk (Kd.S_below (Xq HO279) hb); replace HO282 := Aside0.mk (Kd.R_below (Xq HO282) hb); replace HO288 := Aside0.mk (Kd.S_below (Xq HO288) hb); have BK289 := Aside0.mk (hbox); have GE289 := Xge hg Xi; replace HB := Aside0.mk (below_step Xi hb); have NB273_289 := Xnb hg BK273; have NB289_273 := Xns NB273_289; replace BK273 := Xbb BK273 hb; clear hb hbox hg; have hnb21 := NB289_273.out; have hnc21 := NB273_289.out; obtain ⟨hcz22_0, hcz22_1, hcz22_2⟩ := Xc3 BK289; obtain ⟨hfz22_0, hfz22_1, hfz22_2⟩ := Xf3 BK289; obtain ⟨Ao23, co23, eo23⟩ := Kd.S_slice HO288.out; subst eo23) | ((with_reducible refine gate_store (t := 29) (p := 8) rfl ?_); refine store_event (t := 29) (p := 8) (v := ?vo_w24) (w1 := (((w20.setCell ⟨gb289, 0, none⟩ (.int .i64 t284)).setCell ⟨gb289, 1, none⟩ (.int .i64 t285)).setCell ⟨gb289, 2, none⟩ (.slice Ao23 t286.length co23))) ?hg ?ho ?hn ?hr ?_; (case ho => rfl); (case hg => rfl); (case hn => rfl); (case hr => first | (go_simp; done) | (go_simp; rfl)); intro w24 hw; have n0_ : Aside0 (Kd.S k43 43 w24 w.heap.size (fun k_ => some k_ ≠ (v281 : Value).ownBlock ∧ some k_ ≠ (.slice Ao23 t286.length co23 : Value).ownBlock) (.slice Ao16 t277.length co16) t277) := ⟨(by rw [hw]; exact (by (with_reducible repeat (first | apply Kd.S_alloc | apply Kd.S_drewN | apply Kd.S_drew)); exact Kd.S_mono (Kd.S_far (p := ⟨gb289, 2, none⟩) (Kd.S_far (p := ⟨gb289, 1, none⟩) (Kd.S_far (p := ⟨gb289, 0, none⟩) (Kd.S_types HO279.out BK289.out (by decide)) (fun _ hk => hk.2) (.int .i64 t284)) (fun _ hk => hk.2) (.int .i64 t285)) (fun _ hk => hk.2) (.slice Ao23 t286.length co23)) (fun _ hk => ⟨hk.1.1.2, hk.1.2⟩)))⟩; have n1_ : Aside0 (Kd.R (Kd.int .i64) 3 w24 w.heap.size (fun _ => True) v281 t280) := ⟨(by rw [hw]; exact (by (with_reducible repeat (first | apply Kd.R_alloc | apply Kd.R_drewN | apply Kd.R_drew)); exact Kd.R_mono (Kd.R_far (p := ⟨gb289, 2, none⟩) (Kd.R_far (p := ⟨gb289, 1, none⟩) (Kd.R_far (p := ⟨gb289, 0, none⟩) (Kd.R_types HO282.out BK289.out (by decide)) (fun _ hk => hk.2) (.int .i64 t284)) (fun _ hk => hk.2) (.int .i64 t285)) (fun _ hk => hk.2) (.slice Ao23 t286.length co23)) (fun _ hk => trivial)))⟩; have n2_ : Aside0 (Kd.S k43 43 w24 w.heap.size (fun k_ => some k_ ≠ (.slice Ao16 t277.length co16 : Value).ownBlock ∧ some k_ ≠ (v281 : Value).ownBlock) (.slice Ao23 t286.length co23) t286) := ⟨(by rw [hw]; exact (by (with_reducible repeat (first | apply Kd.S_alloc | apply Kd.S_drewN | apply Kd.S_drew)); exact Kd.S_mono (Kd.S_far (p := ⟨gb289, 2, none⟩) (Kd.S_far (p := ⟨gb289, 1, none⟩) (Kd.S_far (p := ⟨gb289, 0, none⟩) (Kd.S_types HO288.out BK289.out (by decide)) (fun _ hk => hk.2) (.int .i64 t284)) (fun _ hk => hk.2) (.int .i64 t285)) (fun _ hk => hk.2) (.slice Ao23 t286.length co23)) (fun _ hk => ⟨hk.1.1.2, hk.1.2⟩)))⟩; have n3_ : Aside0 (w24.heap[gb273]? = some (.cells #[.int .i64 a0_0, .int .i64 a0_1, .slice A0_2 l0_2.length c0_2] 24 (0, 0))) := ⟨(by rw [hw]; exact (by (with_reducible repeat (first | refine blk_drewN ?_ _ | refine blk_drew ?_ | refine blk_alloc ?_ _)); refine blk_far ?_ NB273_289.out _; (with_reducible repeat (first | refine blk_drewN ?_ _ | refine blk_drew ?_ | refine blk_alloc ?_ _)); refine blk_far ?_ NB273_289.out _; (with_reducible repeat (first | refine blk_drewN ?_ _ | refine blk_drew ?_ | refine blk_alloc ?_ _)); refine blk_far ?_ NB273_289.out _; (with_reducible repeat (first | refine blk_drewN ?_ _ | refine blk_drew ?_ | refine blk_alloc ?_ _)); exact BK273.out))⟩; have n4_ : Aside0 (w24.heap[gb289]? = some (.cells #[.int .i64 t284, .int .i64 t285, .slice Ao23 t286.length co23] 29 (0, 0))) := ⟨(by rw [hw]; exact (by (with_reducible repeat (first | refine blk_drewN ?_ _ | refine blk_drew ?_ | refine blk_alloc ?_ _)); refine blk_put (cs := #[.int .i64 t284, .int .i64 t285, .slice none 0 0]) ?_ 2 _ rfl; (with_reducible repeat (first | refine blk_drewN ?_ _ | refine blk_drew ?_ | refine blk_alloc ?_ _)); refine blk_put (cs := #[.int .i64 t284, .int .i64 0, .slice none 0 0]) ?_ 1 _ rfl; (with_reducible repeat (first | refine blk_drewN ?_ _ | refine blk_drew ?_ | refine blk_alloc ?_ _)); refine blk_put (cs := #[.int .i64 0, .int .i64 0, .slice none 0 0]) ?_ 0 _ rfl; (with_reducible repeat (first | refine blk_drewN ?_ _ | refine blk_drew ?_ | refine blk_alloc ?_ _)); exact BK289.out))⟩; have n5_ : Aside0 (Below w.heap.size w w24) := ⟨(by rw [hw]; exact Xi)⟩; clear hw; clear HO279; clear HO282; clear HO288; clear BK273; clear BK289; clear HB; have HO279 := n0_; have HO282 := n1_; have HO288 := n2_; have BK273 := n3_; have BK289 := n4_; have HB := n5_; clear n0_ n1_ n2_ n3_ n4_ n5_; obtain ⟨hcz25_0, hcz25_1, hcz25_2⟩ := Xc3 BK289; obtain ⟨hfz25_0, hfz25_1, hfz25_2⟩ := Xf3 BK289) | ((with_reducible refine gate_callee (f := 21) rfl ?_); refine Xgo 33 Try.func21 #[.agg #[.int .i64 t284, .int .i64 t285, .slice Ao23 t286.length co23], .int .i64 a1] ?_; (with_reducible refine (impl_InOrder.calls k t284 t285 _ _ t286 a1 t290 t293 _ ?side1 ?side2 A12.out).mono ?_); (case side1 => repeat (first | exact (Kd.S_reads' HO288.out).2.2 | (with_reducible first | refine Kd.C_alloc ?_ _ | refine Kd.C_drewN ?_ _ | refine Kd.C_drew ?_))); (case side2 => exact (Kd.S_reads' HO288.out).2.1); rintro e w26 ⟨v291, rfl, ho0, hb⟩; refine ⟨_, rfl, ?_⟩; replace HO279 := Aside0.mk (Kd.S_elder' (Xq HO279) (Kd.R_base ho0) hb); replace HO288 := Aside0.mk (Kd.S_elder' (Xq HO288) (Kd.R_base ho0) hb); have HO292 := Aside0.mk (Kd.R_lower (Kd.R_new' ho0 (Kd.R_lt (Xq HO282))) (below_size Xi)); replace HO282 := Aside0.mk (Kd.R_elder' (Xq HO282) (Kd.R_base ho0) hb); replace BK273 := Xbb BK273 hb; replace BK289 := Xbb BK289 hb; replace HB := Aside0.mk (below_step Xi hb); clear hb; (try clear ho0)))
  (try simp only [XW.q0, XW.q1, XW.q2])
  go_cut [44] (fun v44 wc => ∃ (kq : Nat) (x44_12 : Bool), v44 = .bool x44_12 ∧ Aside0 (laws_FnExactInOrder.j0 kq a1 t280 t283 t290 t293 x44_12 a0_0 a0_1 l0_2 t284 t285 t286 = some true) ∧ Aside0 (kq ≤ k) ∧ Aside0 (Kd.R (Kd.int .i64) 3 wc w.heap.size (fun k_ => some k_ ≠ (v291 : Value).ownBlock) v281 t280) ∧ Aside0 (Kd.R (Kd.int .i64) 3 wc w.heap.size (fun k_ => some k_ ≠ (v281 : Value).ownBlock) v291 t290) ∧ Aside0 (Kd.S k43 43 wc w.heap.size (fun k_ => some k_ ≠ (v281 : Value).ownBlock ∧ some k_ ≠ (v291 : Value).ownBlock) (.slice Ao23 t286.length co23) t286) ∧ Aside0 (wc.heap[gb273]? = some (.cells #[.int .i64 a0_0, .int .i64 a0_1, (.slice A0_2 l0_2.length c0_2)] 24 (0, 0))) ∧ Aside0 (wc.heap[gb289]? = some (.cells #[.int .i64 t284, .int .i64 t285, (.slice Ao23 t286.length co23)] 29 (0, 0))) ∧ Aside0 (Below w.heap.size w wc))
  case first =>
   have H := HC13.out
   clear HC13
   obtain ⟨t294, A27, H⟩ := Xbi H
   (try dsimp only at H)
   by_cases c28 : t294 = true
   ·subst c28
    (first | rw [if_pos rfl] at H | skip)
    have H' := Aside0.mk H
    clear H
    obtain ⟨Ao29, co29, eo29⟩ := Kd.R_slice HO292.out
    subst eo29
    obtain ⟨Ao30, co30, eo30⟩ := Kd.R_slice HO282.out
    subst eo30
    go_wp2_with (first | ((with_reducible refine gate_callee (f := 28) rfl ?_); refine Xgo 38 Try.func28 #[.slice Ao29 t290.length co29, .slice Ao30 t280.length co30] ?_; (with_reducible refine (laws_eqIntS.calls k _ _ t290 _ _ t280 true _ ?side1 ?side2 ?side3 ?side4 A27.out).mono ?_); (case side1 => repeat (first | exact (Kd.R_reads' HO292.out).2.2 | (with_reducible first | refine Kd.C_alloc ?_ _ | refine Kd.C_drewN ?_ _ | refine Kd.C_drew ?_))); (case side2 => exact (Kd.R_reads' HO292.out).2.1); (case side3 => repeat (first | exact (Kd.R_reads' HO282.out).2.2 | (with_reducible first | refine Kd.C_alloc ?_ _ | refine Kd.C_drewN ?_ _ | refine Kd.C_drew ?_))); (case side4 => exact (Kd.R_reads' HO282.out).2.1); rintro e w' ⟨rfl, ⟨nd, rfl⟩⟩; refine ⟨_, rfl, ?_⟩))
    go_meet
    case rel => exact ⟨_, ((t293 != t283)), Xr, H', Xko, ⟨by (with_reducible repeat (first | apply Kd.R_alloc | apply Kd.R_drewN | apply Kd.R_drew)); exact Kd.R_mono HO282.out (fun _ hk => hk.2)⟩, ⟨by (with_reducible repeat (first | apply Kd.R_alloc | apply Kd.R_drewN | apply Kd.R_drew)); exact Kd.R_mono HO292.out (fun _ hk => hk.2)⟩, ⟨by (with_reducible repeat (first | apply Kd.S_alloc | apply Kd.S_drewN | apply Kd.S_drew)); exact Kd.S_mono HO288.out (fun _ hk => ⟨hk.1.2, hk.2⟩)⟩, BK273, BK289, ⟨Xi⟩⟩
   ·replace c28 := Bool.eq_false_iff.mpr c28
    subst c28
    (first | rw [if_neg (show ¬ (false = true) by decide)] at H | skip)
    have H' := Aside0.mk H
    clear H
    obtain ⟨Ao31, co31, eo31⟩ := Kd.R_slice HO292.out
    subst eo31
    obtain ⟨Ao32, co32, eo32⟩ := Kd.R_slice HO282.out
    subst eo32
    go_wp2_with (first | ((with_reducible refine gate_callee (f := 28) rfl ?_); refine Xgo 38 Try.func28 #[.slice Ao31 t290.length co31, .slice Ao32 t280.length co32] ?_; (with_reducible refine (laws_eqIntS.calls k _ _ t290 _ _ t280 false _ ?side1 ?side2 ?side3 ?side4 A27.out).mono ?_); (case side1 => repeat (first | exact (Kd.R_reads' HO292.out).2.2 | (with_reducible first | refine Kd.C_alloc ?_ _ | refine Kd.C_drewN ?_ _ | refine Kd.C_drew ?_))); (case side2 => exact (Kd.R_reads' HO292.out).2.1); (case side3 => repeat (first | exact (Kd.R_reads' HO282.out).2.2 | (with_reducible first | refine Kd.C_alloc ?_ _ | refine Kd.C_drewN ?_ _ | refine Kd.C_drew ?_))); (case side4 => exact (Kd.R_reads' HO282.out).2.1); rintro e w' ⟨rfl, ⟨nd, rfl⟩⟩; refine ⟨_, rfl, ?_⟩))
    go_meet
    case rel => exact ⟨_, (true), Xr, H', Xko, ⟨by (with_reducible repeat (first | apply Kd.R_alloc | apply Kd.R_drewN | apply Kd.R_drew)); exact Kd.R_mono HO282.out (fun _ hk => hk.2)⟩, ⟨by (with_reducible repeat (first | apply Kd.R_alloc | apply Kd.R_drewN | apply Kd.R_drew)); exact Kd.R_mono HO292.out (fun _ hk => hk.2)⟩, ⟨by (with_reducible repeat (first | apply Kd.S_alloc | apply Kd.S_drewN | apply Kd.S_drew)); exact Kd.S_mono HO288.out (fun _ hk => ⟨hk.1.2, hk.2⟩)⟩, BK273, BK289, ⟨Xi⟩⟩
  case rest =>
   clear HC13
   (try clear c8); (try clear c8b0); (try clear hcz14_0); (try clear hcz14_1); (try clear hcz14_2); (try clear hcz18_0); (try clear hcz18_1); (try clear hcz18_2); (try clear hcz22_0); (try clear hcz22_1); (try clear hcz22_2); (try clear hcz25_0); (try clear hcz25_1); (try clear hcz25_2); (try clear hcz6_0); (try clear hcz6_1); (try clear hcz6_2); (try clear hfz14_0); (try clear hfz14_1); (try clear hfz14_2); (try clear hfz18_0); (try clear hfz18_1); (try clear hfz18_2); (try clear hfz22_0); (try clear hfz22_1); (try clear hfz22_2); (try clear hfz25_0); (try clear hfz25_1); (try clear hfz25_2); (try clear hfz6_0); (try clear hfz6_1); (try clear hfz6_2)
   obtain ⟨kq, x44_12, rfl, HA, HJ12, HO_6, HO_9, HO_290002, BK273, BK289, HB⟩ := hcut
   cases kq with
   | zero => cases HA.out
   | succ kj12 =>
    have H := HA.out
    clear HA
    simp only [laws_FnExactInOrder.j0] at H
    by_cases c33 : x44_12 = true
    ·subst c33
     (first | rw [if_pos rfl] at H | skip)
     cases H
    ·replace c33 := Bool.eq_false_iff.mpr c33
     subst c33
     (first | rw [if_neg (show ¬ (false = true) by decide)] at H | skip)
     replace H := Option.bind_eq_some_iff.mp H
     obtain ⟨⟨t295, t296, t297⟩, A340, H⟩ := H
     (try dsimp only at H)
     have A34 := Aside0.mk A340
     clear A340
     obtain ⟨t300, A35, H⟩ := Xbi H
     (try dsimp only at H)
     have HC36 := Aside0.mk H
     clear H
     try go_wp2_with (fail)
     replace HO_6 := Aside0.mk (Kd.R_drew HO_6.out)
     replace HO_9 := Aside0.mk (Kd.R_drew HO_9.out)
     replace HO_290002 := Aside0.mk (Kd.S_drew HO_290002.out)
     replace BK273 := Aside0.mk (blk_drew BK273.out)
     replace BK289 := Aside0.mk (blk_drew BK289.out)
     replace HB := Aside0.mk (below_drew1 HB.out)
     refine start_ (n := 5) (S := fun w' => w'.cell? ⟨gb289, 0, none⟩ = some (.int .i64 t284) ∧ w'.cell? ⟨gb289, 1, none⟩ = some (.int .i64 t285) ∧ w'.cell? ⟨gb289, 2, none⟩ = some (.slice Ao23 t286.length co23) ∧ w'.cell? ⟨gb273, 0, none⟩ = some (.int .i64 a0_0) ∧ w'.cell? ⟨gb273, 1, none⟩ = some (.int .i64 a0_1) ∧ w'.cell? ⟨gb273, 2, none⟩ = some (.slice A0_2 l0_2.length c0_2)) (ds := []) #[false, false, false, false, false] (by kernel_rfl) rfl rfl ⟨(blk_cell BK289.out 0).trans rfl, (blk_cell BK289.out 1).trans rfl, (blk_cell BK289.out 2).trans rfl, (blk_cell BK273.out 0).trans rfl, (blk_cell BK273.out 1).trans rfl, (blk_cell BK273.out 2).trans rfl⟩ (fun hHeld => ?_)
     generalize wc.drew = w37 at HO_6 HO_9 HO_290002 BK273 BK289 HB hHeld ⊢
     refine take_ (i := 0) (N := some 45) (v := ?_) (a' := ?_) #[true, false, false, false, false] rfl rfl (by kernel_rfl) (fun _ _ _ h => h) (Or.inl ⟨by rfl, ?_⟩) hHeld ?_ ?_
     rotate_left
     ·rintro w' ⟨s0, s1, s2, s3, s4, s5⟩
      go_simp
      with_reducible rfl
     rotate_left
     ·simp only [XW.q0, XW.q1, XW.q2, i64_w, i32_w]
      rfl
     refine take_ (i := 1) (N := some 46) (v := ?_) (a' := ?_) #[true, true, false, false, false] rfl rfl (by kernel_rfl) (fun _ _ _ h => h) (Or.inl ⟨by rfl, ?_⟩) hHeld ?_ ?_
     rotate_left
     ·rintro w' ⟨s0, s1, s2, s3, s4, s5⟩
      go_simp
      with_reducible rfl
     rotate_left
     ·simp only [XW.q0, XW.q1, XW.q2, i64_w, i32_w]
      rfl
     refine one_ (i := 2) (N := some 47) #[true, true, true, false, false] rfl rfl (by kernel_rfl) (by decide) (fun K hK => ?_)
     refine goes_ Try.func15 (by kernel_rfl) rfl #[.agg #[.int .i64 a0_0, .int .i64 a0_1, .slice A0_2 l0_2.length c0_2]] (by rfl) rfl rfl (by (try simp only [List.map_toArray, List.map_cons, List.map_nil]); first | done | rfl | (simp only [List.length_drop, List.length_take]; rfl)) ?_
     with_reducible refine (laws_toDoc.calls kj12 a0_0 a0_1 _ _ l0_2 t295 t296 t297 _ ?side1 ?side2 A34.out).mono ?_
     (case side1 => exact Xc HR0_2)
     (case side2 => exact HC0_2.out)
     rintro e w38 ⟨v298, rfl, ho0, hb⟩
     refine ⟨_, rfl, ?_⟩
     have HO299 := Aside0.mk (Kd.S_lower (Kd.S_new' (Kd.S_new' (Kd.S_new' ho0 (Kd.R_lt (Xq HO_6))) (Kd.R_lt (Xq HO_9))) (Kd.S_lt (Xq HO_290002))) (below_size Xi))
     replace HO_6 := Aside0.mk (Kd.R_below (Xq HO_6) hb)
     replace HO_9 := Aside0.mk (Kd.R_below (Xq HO_9) hb)
     replace HO_290002 := Aside0.mk (Kd.S_elder' (Xq HO_290002) (Kd.S_base ho0) hb)
     replace BK273 := Xbb BK273 hb
     replace BK289 := Xbb BK289 hb
     replace HB := Aside0.mk (below_step Xi hb)
     (try clear hb)
     (try clear hb2)
     (try clear hk)
     (try clear hi)
     (try clear ho0)
     obtain ⟨Ao39, co39, eo39⟩ := Kd.S_slice HO299.out
     (first | subst eo39 | (injection eo39 with f1_ f2_ f3_; have f4_ := f1_.symm; have f5_ := f3_.symm; clear f1_ f2_ f3_; subst f4_; subst f5_))
     refine hK.out _ _ ⟨(blk_cell BK289.out 0).trans rfl, (blk_cell BK289.out 1).trans rfl, (blk_cell BK289.out 2).trans rfl, (blk_cell BK273.out 0).trans rfl, (blk_cell BK273.out 1).trans rfl, (blk_cell BK273.out 2).trans rfl⟩ (fun hHeld => ?_)
     clear hK K
     refine Xno ?_
     refine one_ (i := 3) (N := some 48) #[true, true, true, true, false] rfl rfl (by kernel_rfl) (by decide) (fun K hK => ?_)
     refine goes_ Try.func17 (by kernel_rfl) rfl #[.agg #[.int .i64 t284, .int .i64 t285, .slice Ao23 t286.length co23], .agg #[.int .i64 t295, .int .i64 t296, .slice Ao39 t297.length co39]] (by rfl) rfl rfl (by (try simp only [List.map_toArray, List.map_cons, List.map_nil]); first | done | rfl | (simp only [List.length_drop, List.length_take]; rfl)) ?_
     with_reducible refine (laws_eqDoc.calls kj12 t284 t285 _ _ t286 t295 t296 _ _ t297 t300 _ ?side1 ?side2 ?side3 ?side4 A35.out).mono ?_
     (case side1 => repeat (first | exact (Kd.S_reads' HO_290002.out).2.2 | (with_reducible first | refine Kd.C_alloc ?_ _ | refine Kd.C_drewN ?_ _ | refine Kd.C_drew ?_)))
     (case side2 => exact (Kd.S_reads' HO_290002.out).2.1)
     (case side3 => repeat (first | exact (Kd.S_reads' HO299.out).2.2 | (with_reducible first | refine Kd.C_alloc ?_ _ | refine Kd.C_drewN ?_ _ | refine Kd.C_drew ?_)))
     (case side4 => exact (Kd.S_reads' HO299.out).2.1)
     rintro e w40 ⟨rfl, hb⟩
     refine ⟨_, rfl, ?_⟩
     replace HO_6 := Aside0.mk (Kd.R_below (Xq HO_6) hb)
     replace HO_9 := Aside0.mk (Kd.R_below (Xq HO_9) hb)
     replace HO_290002 := Aside0.mk (Kd.S_below (Xq HO_290002) hb)
     replace HO299 := Aside0.mk (Kd.S_below (Xq HO299) hb)
     replace BK273 := Xbb BK273 hb
     replace BK289 := Xbb BK289 hb
     replace HB := Aside0.mk (below_step Xi hb)
     (try clear hb)
     (try clear hb2)
     (try clear hk)
     (try clear hi)
     refine hK.out _ _ ⟨(blk_cell BK289.out 0).trans rfl, (blk_cell BK289.out 1).trans rfl, (blk_cell BK289.out 2).trans rfl, (blk_cell BK273.out 0).trans rfl, (blk_cell BK273.out 1).trans rfl, (blk_cell BK273.out 2).trans rfl⟩ (fun hHeld => ?_)
     clear hK K
     refine Xno ?_
     refine pure_ (i := 4) (N := some 49) (v := ?_) (a' := ?_) #[true, true, true, true, true] rfl rfl (by kernel_rfl) (fun _ _ _ h => h) (Or.inl ⟨by rfl, ?_⟩) ?_ ?_
     rotate_left
     ·intro w'
      go_simp
      with_reducible rfl
     rotate_left
     ·simp only [XW.q0, XW.q1, XW.q2, i64_w, i32_w]
      rfl
     refine done_ (by kernel_rfl) ?_
     go_upto_if 49 with (fail)
     have H := HC36.out
     clear HC36
     by_cases c41 : t300 = true
     ·subst c41
      (first | rw [if_pos rfl] at H | skip)
      replace H := Option.bind_eq_some_iff.mp H
      obtain ⟨⟨t301, t302⟩, A420, H⟩ := H
      (try dsimp only at H)
      have A42 := Aside0.mk A420
      clear A420
      have HC43 := Aside0.mk H
      clear H
      have hnb44 := NB289_273.out
      have hnc44 := NB273_289.out
      obtain ⟨hcz45_0, hcz45_1, hcz45_2⟩ := Xc3 BK289
      obtain ⟨hfz45_0, hfz45_1, hfz45_2⟩ := Xf3 BK289
      go_upto_region 14 with (first | ((with_reducible refine gate_callee (f := 29) rfl ?_); refine Xgo 52 Try.func29 #[.agg #[.int .i64 t284, .int .i64 t285, .slice Ao23 t286.length co23], .int .i64 1] ?_; (with_reducible refine (laws_markDoc.calls kj12 t284 t285 (fun k_ => ((((some k_ ≠ (v281 : Value).ownBlock ∧ some k_ ≠ (v291 : Value).ownBlock) ∧ some k_ ≠ (.slice Ao39 t297.length co39 : Value).ownBlock) ∧ k_ ≠ gb273) ∧ k_ ≠ gb289)) (.slice Ao23 t286.length co23) t286 1 t301 t302 w _ ?side1 ?side2 A42.out).mono ?_); (case side1 => exact Xi); (case side2 => (with_reducible repeat (first | apply Kd.S_alloc | apply Kd.S_drewN | apply Kd.S_drew)); exact (Kd.S_types (Kd.S_types HO_290002.out BK273.out (by decide)) BK289.out (by decide))); rintro e w46 ⟨rfl, hy0, hb, hkp⟩; refine ⟨_, rfl, ?_⟩; replace HO_6 := Aside0.mk (Kd.R_mono (ok' := fun k_ => some k_ ≠ (v291 : Value).ownBlock) (XR.R_keptT rfl HO_6.out hkp (fun k_ hk_ hs_ => (hs_.1.1.1.1) hk_.1)) (fun k_ hk_ => hk_.1)); replace HO_9 := Aside0.mk (Kd.R_mono (ok' := fun k_ => some k_ ≠ (v281 : Value).ownBlock) (XR.R_keptT rfl HO_9.out hkp (fun k_ hk_ hs_ => (hs_.1.1.1.2) hk_.1)) (fun k_ hk_ => hk_.1)); replace HO_290002 := Aside0.mk (hy0); replace BK273 := Aside0.mk (blk_kept BK273.out hkp (fun hs_ => (hs_.1.2) rfl)); replace BK289 := Aside0.mk (blk_kept BK289.out hkp (fun hs_ => (hs_.2) rfl)); replace HB := Aside0.mk (hb); clear HO299; (try clear hb); (try clear hkp); (try clear hy0)))
      (try simp only [XW.q0, XW.q1, XW.q2])
      go_cut [65] (fun v65 wc => ∃ (kq : Nat) (x65_42 : Bool), v65 = .bool x65_42 ∧ Aside0 (laws_FnExactInOrder.j1 kq a1 t280 t283 t290 x65_42 a0_0 a0_1 l0_2 = some true) ∧ Aside0 (kq ≤ kj12) ∧ Aside0 (Kd.R (Kd.int .i64) 3 wc w.heap.size (fun k_ => some k_ ≠ (v291 : Value).ownBlock) v281 t280) ∧ Aside0 (Kd.R (Kd.int .i64) 3 wc w.heap.size (fun k_ => some k_ ≠ (v281 : Value).ownBlock) v291 t290) ∧ Aside0 (Kd.S k43 43 wc w.heap.size (fun k_ => some k_ ≠ (v281 : Value).ownBlock ∧ some k_ ≠ (v291 : Value).ownBlock) (.slice Ao23 t286.length co23) t302) ∧ Aside0 (wc.heap[gb273]? = some (.cells #[.int .i64 a0_0, .int .i64 a0_1, (.slice A0_2 l0_2.length c0_2)] 24 (0, 0))) ∧ Aside0 (wc.heap[gb289]? = some (.cells #[.int .i64 t284, .int .i64 t285, (.slice Ao23 t286.length co23)] 29 (0, 0))) ∧ Aside0 (Below w.heap.size w wc))
      case first =>
       have H := HC43.out
       clear HC43
       obtain ⟨c47b0, H⟩ | ⟨c47b0, H⟩ := Xit H
       ·(first | rw [c47b0] | (simp only [i64_w, i32_w]; rw [c47b0]) | skip)
        have H' := Aside0.mk H
        clear H
        go_wp2
        go_meet
        case rel => exact ⟨_, (true), Xr, H', ⟨by have := HJ12.out; first | omega | exact Nat.le_refl _⟩, (Xp' HO_6), (Xp' HO_9), ⟨by (with_reducible repeat (first | apply Kd.S_alloc | apply Kd.S_drewN | apply Kd.S_drew)); exact Kd.S_mono HO_290002.out (fun _ hk => ⟨hk.1.1.1.1, hk.1.1.1.2⟩)⟩, BK273, BK289, ⟨Xi⟩⟩
       ·(first | rw [c47b0] | (simp only [i64_w, i32_w]; rw [c47b0]) | skip)
        obtain ⟨t303, A48, H⟩ := Xbi H
        (try dsimp only at H)
        by_cases c49 : t303 = true
        ·subst c49
         (first | rw [if_pos rfl] at H | skip)
         have H' := Aside0.mk H
         clear H
         obtain ⟨Ao50, co50, eo50⟩ := Kd.R_slice HO_9.out
         subst eo50
         obtain ⟨Ao51, co51, eo51⟩ := Kd.R_slice HO_6.out
         subst eo51
         go_wp2_with (first | (go_at_call 28; (with_reducible refine (laws_eqIntS.calls kj12 _ _ t290 _ _ t280 true _ ?side1 ?side2 ?side3 ?side4 A48.out).mono ?_); (case side1 => repeat (first | exact (Kd.R_reads' HO_9.out).2.2 | (with_reducible first | refine Kd.C_alloc ?_ _ | refine Kd.C_drewN ?_ _ | refine Kd.C_drew ?_))); (case side2 => exact (Kd.R_reads' HO_9.out).2.1); (case side3 => repeat (first | exact (Kd.R_reads' HO_6.out).2.2 | (with_reducible first | refine Kd.C_alloc ?_ _ | refine Kd.C_drewN ?_ _ | refine Kd.C_drew ?_))); (case side4 => exact (Kd.R_reads' HO_6.out).2.1); rintro e w' ⟨rfl, ⟨nd, rfl⟩⟩))
         go_meet
         case rel => exact ⟨_, ((t293 != t283)), Xr, H', ⟨by have := HJ12.out; first | omega | exact Nat.le_refl _⟩, (Xp' HO_6), (Xp' HO_9), ⟨by (with_reducible repeat (first | apply Kd.S_alloc | apply Kd.S_drewN | apply Kd.S_drew)); exact Kd.S_mono HO_290002.out (fun _ hk => ⟨hk.1.1.1.1, hk.1.1.1.2⟩)⟩, BK273, BK289, ⟨Xi⟩⟩
        ·replace c49 := Bool.eq_false_iff.mpr c49
         subst c49
         (first | rw [if_neg (show ¬ (false = true) by decide)] at H | skip)
         have H' := Aside0.mk H
         clear H
         obtain ⟨Ao52, co52, eo52⟩ := Kd.R_slice HO_9.out
         subst eo52
         obtain ⟨Ao53, co53, eo53⟩ := Kd.R_slice HO_6.out
         subst eo53
         go_wp2_with (first | (go_at_call 28; (with_reducible refine (laws_eqIntS.calls kj12 _ _ t290 _ _ t280 false _ ?side1 ?side2 ?side3 ?side4 A48.out).mono ?_); (case side1 => repeat (first | exact (Kd.R_reads' HO_9.out).2.2 | (with_reducible first | refine Kd.C_alloc ?_ _ | refine Kd.C_drewN ?_ _ | refine Kd.C_drew ?_))); (case side2 => exact (Kd.R_reads' HO_9.out).2.1); (case side3 => repeat (first | exact (Kd.R_reads' HO_6.out).2.2 | (with_reducible first | refine Kd.C_alloc ?_ _ | refine Kd.C_drewN ?_ _ | refine Kd.C_drew ?_))); (case side4 => exact (Kd.R_reads' HO_6.out).2.1); rintro e w' ⟨rfl, ⟨nd, rfl⟩⟩))
         go_meet
         case rel => exact ⟨_, (true), Xr, H', ⟨by have := HJ12.out; first | omega | exact Nat.le_refl _⟩, (Xp' HO_6), (Xp' HO_9), ⟨by (with_reducible repeat (first | apply Kd.S_alloc | apply Kd.S_drewN | apply Kd.S_drew)); exact Kd.S_mono HO_290002.out (fun _ hk => ⟨hk.1.1.1.1, hk.1.1.1.2⟩)⟩, BK273, BK289, ⟨Xi⟩⟩
      case rest =>
       clear HC43
       (try clear c8); (try clear c8b0); (try clear c33); (try clear c41); (try clear hcz14_0); (try clear hcz14_1); (try clear hcz14_2); (try clear hcz18_0); (try clear hcz18_1); (try clear hcz18_2); (try clear hcz22_0); (try clear hcz22_1); (try clear hcz22_2); (try clear hcz25_0); (try clear hcz25_1); (try clear hcz25_2); (try clear hcz45_0); (try clear hcz45_1); (try clear hcz45_2); (try clear hcz6_0); (try clear hcz6_1); (try clear hcz6_2); (try clear hfz14_0); (try clear hfz14_1); (try clear hfz14_2); (try clear hfz18_0); (try clear hfz18_1); (try clear hfz18_2); (try clear hfz22_0); (try clear hfz22_1); (try clear hfz22_2); (try clear hfz25_0); (try clear hfz25_1); (try clear hfz25_2); (try clear hfz45_0); (try clear hfz45_1); (try clear hfz45_2); (try clear hfz6_0); (try clear hfz6_1); (try clear hfz6_2)
       obtain ⟨kq, x65_42, rfl, HA, HJ42, HO_6, HO_9, HO_290002, BK273, BK289, HB⟩ := hcut
       have hl290002_42 := (Kd.S_reads' HO_290002.out).1
       rw [hl290002_42] at HO_290002
       (try simp only [hl290002_42])
       (try simp only [hl290002_42] at BK273)
       (try simp only [hl290002_42] at BK289)
       (try simp only [hl290002_42] at HO_6)
       (try simp only [hl290002_42] at HO_9)
       cases kq with
       | zero => cases HA.out
       | succ kj42 =>
        have H := HA.out
        clear HA
        simp only [laws_FnExactInOrder.j1] at H
        by_cases c54 : x65_42 = true
        ·subst c54
         (first | rw [if_pos rfl] at H | skip)
         cases H
        ·replace c54 := Bool.eq_false_iff.mpr c54
         subst c54
         (first | rw [if_neg (show ¬ (false = true) by decide)] at H | skip)
         replace H := Option.bind_eq_some_iff.mp H
         obtain ⟨⟨t304, t305⟩, A550, H⟩ := H
         (try dsimp only at H)
         have A55 := Aside0.mk A550
         clear A550
         obtain ⟨t306, A56, H⟩ := Xbi H
         (try dsimp only at H)
         have HC57 := Aside0.mk H
         clear H
         obtain ⟨Ao58, co58, eo58⟩ := Kd.R_slice HO_9.out
         subst eo58
         go_upto_if 73 with (first | ((with_reducible refine gate_callee (f := 30) rfl ?_); refine Xgo 68 Try.func30 #[.slice Ao58 t290.length co58, .int .i64 1] ?_; (with_reducible refine (laws_markIntS.calls kj42 (fun k_ => some k_ = (.slice Ao58 t290.length co58 : Value).ownBlock) (.slice Ao58 t290.length co58) t290 1 t304 t305 w _ ?side1 ?side2 A55.out).mono ?_); (case side1 => exact Xi); (case side2 => exact Kd.R_tight rfl HO_9.out); rintro e w59 ⟨rfl, hy0, hb, hkp⟩; refine ⟨_, rfl, ?_⟩; replace HO_6 := Aside0.mk (Kd.R_mono (ok' := fun k_ => some k_ ≠ (.slice Ao58 t290.length co58 : Value).ownBlock) (Kd.R_keptB (HO_6.out) hkp (fun k_ hk_ hs_ => (hk_) hs_)) (fun k_ hk_ => hk_.1)); replace HO_290002 := Aside0.mk (Kd.S_mono (ok' := fun k_ => some k_ ≠ (v281 : Value).ownBlock ∧ some k_ ≠ (.slice Ao58 t290.length co58 : Value).ownBlock) (Kd.S_keptB (HO_290002.out) hkp (fun k_ hk_ hs_ => (hk_.2) hs_)) (fun k_ hk_ => ⟨hk_.1.1, hk_.1.2⟩)); replace BK273 := Aside0.mk (blk_kept BK273.out hkp (fun hs_ => (fun e_ => (Kd.R_ne HO_9.out BK273.out (by decide)) e_) hs_)); replace BK289 := Aside0.mk (blk_kept BK289.out hkp (fun hs_ => (fun e_ => (Kd.R_ne HO_9.out BK289.out (by decide)) e_) hs_)); replace HO_9 := Aside0.mk (Kd.R_reok rfl hy0 (fun k_ e_ => HO_9.out.1 k_ e_)); replace HB := Aside0.mk (hb); (try clear hb); (try clear hkp); (try clear hy0)) | ((with_reducible refine gate_callee (f := 31) rfl ?_); refine goesL_ (some 71) rfl rfl Try.func31 (by kernel_rfl) rfl #[.slice Ao58 t305.length co58, .int .i64 1] rfl (by (try simp only [List.map_toArray, List.map_cons, List.map_nil]); first | done | (rw [show t305.length = t290.length from (Kd.R_reads' HO_9.out).1.symm] <;> rfl) | rfl | (simp only [List.length_drop, List.length_take]; rfl)) ?_; (with_reducible refine (laws_heldIntS.calls kj42 _ _ t305 1 t306 _ ?side1 ?side2 A56.out).mono ?_); (case side1 => repeat (first | exact (Kd.R_reads' HO_9.out).2.2 | (with_reducible first | refine Kd.C_alloc ?_ _ | refine Kd.C_drewN ?_ _ | refine Kd.C_drew ?_))); (case side2 => rw [show t305.length = t290.length from (Kd.R_reads' HO_9.out).1.symm]; exact (Kd.R_reads' HO_9.out).2.1); rintro e w' ⟨rfl, ⟨nd, rfl⟩⟩; refine ⟨_, rfl, ?_⟩))
         (try (rw [drewN_self w59]; generalize hq_ : World.drewN w59 _ = w59; have n0_ : Aside0 (Kd.S k43 43 w59 w.heap.size (fun k_ => some k_ ≠ (v281 : Value).ownBlock ∧ some k_ ≠ (.slice Ao58 t290.length co58 : Value).ownBlock) (.slice Ao23 t302.length co23) t302) := ⟨by rw [← hq_]; exact (Xq HO_290002)⟩; have n1_ : Aside0 (Kd.R (Kd.int .i64) 3 w59 w.heap.size (fun k_ => some k_ ≠ (.slice Ao58 t290.length co58 : Value).ownBlock) v281 t280) := ⟨by rw [← hq_]; exact (Xq HO_6)⟩; have n2_ : Aside0 (Kd.R (Kd.int .i64) 3 w59 w.heap.size (fun k_ => some k_ ≠ (v281 : Value).ownBlock) (.slice Ao58 t290.length co58) t305) := ⟨by rw [← hq_]; exact (Xq HO_9)⟩; have n3_ : Aside0 (w59.heap[gb273]? = some (.cells #[.int .i64 a0_0, .int .i64 a0_1, .slice A0_2 l0_2.length c0_2] 24 (0, 0))) := ⟨by rw [← hq_]; exact BK273.out⟩; have n4_ : Aside0 (w59.heap[gb289]? = some (.cells #[.int .i64 t284, .int .i64 t285, .slice Ao23 t302.length co23] 29 (0, 0))) := ⟨by rw [← hq_]; exact BK289.out⟩; have n5_ : Aside0 (Below w.heap.size w w59) := ⟨by rw [← hq_]; exact Xi⟩; clear HO_290002 HO_6 HO_9 BK273 BK289 HB hq_; have HO_290002 := n0_; have HO_6 := n1_; have HO_9 := n2_; have BK273 := n3_; have BK289 := n4_; have HB := n5_; clear n0_ n1_ n2_ n3_ n4_ n5_))
         have H := HC57.out
         clear HC57
         obtain ⟨c60b0, H⟩ | ⟨c60b0, H⟩ := Xit H
         ·(first | rw [c60b0] | (simp only [i64_w, i32_w]; rw [c60b0]) | skip)
          cases H
         ·(first | rw [c60b0] | (simp only [i64_w, i32_w]; rw [c60b0]) | skip)
          obtain ⟨c61, H⟩ | ⟨c61, H⟩ := Xiu H
          ·have c61b0 : (t306 == t304) = true := beq_iff_eq.mpr c61
           have c61b1 : (t306 != t304) = false := bne_eq_false_iff_eq.mpr c61
           clear c61
           replace H := Option.bind_eq_some_iff.mp H
           obtain ⟨⟨t307, t308, t309⟩, A620, H⟩ := H
           (try dsimp only at H)
           have A62 := Aside0.mk A620
           clear A620
           replace H := Option.bind_eq_some_iff.mp H
           obtain ⟨⟨t312, t315⟩, A630, H⟩ := H
           (try dsimp only at H)
           have A63 := Aside0.mk A630
           clear A630
           have HC64 := Aside0.mk H
           clear H
           have hnb65 := NB273_289.out
           have hnc65 := NB289_273.out
           obtain ⟨hcz66_0, hcz66_1, hcz66_2⟩ := Xc3 BK273
           obtain ⟨hfz66_0, hfz66_1, hfz66_2⟩ := Xf3 BK273
           go_upto_region 25 with (first | ((with_reducible refine gate_callee (f := 15) rfl ?_); refine Xgo 79 Try.func15 #[.agg #[.int .i64 a0_0, .int .i64 a0_1, .slice A0_2 l0_2.length c0_2]] ?_; (with_reducible refine (laws_toDoc.calls kj42 a0_0 a0_1 _ _ l0_2 t307 t308 t309 _ ?side1 ?side2 A62.out).mono ?_); (case side1 => exact Xc HR0_2); (case side2 => exact HC0_2.out); rintro e w67 ⟨v310, rfl, ho0, hb⟩; refine ⟨_, rfl, ?_⟩; have HO311 := Aside0.mk (Kd.S_lower (Kd.S_new' (Kd.S_new' (Kd.S_new' ho0 (Kd.R_lt (Xq HO_6))) (Kd.R_lt (Xq HO_9))) (Kd.S_lt (Xq HO_290002))) (below_size Xi)); replace HO_6 := Aside0.mk (Kd.R_below (Xq HO_6) hb); replace HO_9 := Aside0.mk (Kd.R_below (Xq HO_9) hb); replace HO_290002 := Aside0.mk (Kd.S_elder' (Xq HO_290002) (Kd.S_base ho0) hb); replace BK273 := Xbb BK273 hb; replace BK289 := Xbb BK289 hb; replace HB := Aside0.mk (below_step Xi hb); clear hb; (try clear ho0); obtain ⟨Ao68, co68, eo68⟩ := Kd.S_slice HO311.out; subst eo68) | ((with_reducible refine gate_callee (f := 21) rfl ?_); refine Xgo 81 Try.func21 #[.agg #[.int .i64 t307, .int .i64 t308, .slice Ao68 t309.length co68], .int .i64 a1] ?_; (with_reducible refine (impl_InOrder.calls kj42 t307 t308 _ _ t309 a1 t312 t315 _ ?side1 ?side2 A63.out).mono ?_); (case side1 => repeat (first | exact (Kd.S_reads' HO311.out).2.2 | (with_reducible first | refine Kd.C_alloc ?_ _ | refine Kd.C_drewN ?_ _ | refine Kd.C_drew ?_))); (case side2 => exact (Kd.S_reads' HO311.out).2.1); rintro e w69 ⟨v313, rfl, ho0, hb⟩; refine ⟨_, rfl, ?_⟩; replace HO_290002 := Aside0.mk (Kd.S_elder' (Xq HO_290002) (Kd.R_base ho0) hb); replace HO311 := Aside0.mk (Kd.S_elder' (Xq HO311) (Kd.R_base ho0) hb); have HO314 := Aside0.mk (Kd.R_lower (Kd.R_new' (Kd.R_new' ho0 (Kd.R_lt (Xq HO_6))) (Kd.R_lt (Xq HO_9))) (below_size Xi)); replace HO_6 := Aside0.mk (Kd.R_elder' (Xq HO_6) (Kd.R_base ho0) hb); replace HO_9 := Aside0.mk (Kd.R_elder' (Xq HO_9) (Kd.R_base ho0) hb); replace BK273 := Xbb BK273 hb; replace BK289 := Xbb BK289 hb; replace HB := Aside0.mk (below_step Xi hb); clear hb; (try clear ho0)))
           (try simp only [XW.q0, XW.q1, XW.q2])
           go_cut [92] (fun v92 wc => ∃ (kq : Nat) (x92_63 : Bool), v92 = .bool x92_63 ∧ Aside0 (laws_FnExactInOrder.j2 kq t305 t304 x92_63 = some true) ∧ Aside0 (kq ≤ kj42) ∧ Aside0 (Kd.R (Kd.int .i64) 3 wc w.heap.size (fun _ => True) (.slice Ao58 t290.length co58) t305) ∧ Aside0 (Kd.S k43 43 wc w.heap.size (fun k_ => some k_ ≠ ((.slice Ao58 t290.length co58) : Value).ownBlock) (.slice Ao23 t302.length co23) t302) ∧ Aside0 (wc.heap[gb273]? = some (.cells #[.int .i64 a0_0, .int .i64 a0_1, (.slice A0_2 l0_2.length c0_2)] 24 (0, 0))) ∧ Aside0 (wc.heap[gb289]? = some (.cells #[.int .i64 t284, .int .i64 t285, (.slice Ao23 t302.length co23)] 29 (0, 0))) ∧ Aside0 (Below w.heap.size w wc))
           case first =>
            have H := HC64.out
            clear HC64
            obtain ⟨t316, A70, H⟩ := Xbi H
            (try dsimp only at H)
            by_cases c71 : t316 = true
            ·subst c71
             (first | rw [if_pos rfl] at H | skip)
             have H' := Aside0.mk H
             clear H
             obtain ⟨Ao72, co72, eo72⟩ := Kd.R_slice HO314.out
             subst eo72
             obtain ⟨Ao73, co73, eo73⟩ := Kd.R_slice HO_6.out
             subst eo73
             go_wp2_with (first | ((with_reducible refine gate_callee (f := 28) rfl ?_); refine Xgo 86 Try.func28 #[.slice Ao72 t312.length co72, .slice Ao73 t280.length co73] ?_; (with_reducible refine (laws_eqIntS.calls kj42 _ _ t312 _ _ t280 true _ ?side1 ?side2 ?side3 ?side4 A70.out).mono ?_); (case side1 => repeat (first | exact (Kd.R_reads' HO314.out).2.2 | (with_reducible first | refine Kd.C_alloc ?_ _ | refine Kd.C_drewN ?_ _ | refine Kd.C_drew ?_))); (case side2 => exact (Kd.R_reads' HO314.out).2.1); (case side3 => repeat (first | exact (Kd.R_reads' HO_6.out).2.2 | (with_reducible first | refine Kd.C_alloc ?_ _ | refine Kd.C_drewN ?_ _ | refine Kd.C_drew ?_))); (case side4 => exact (Kd.R_reads' HO_6.out).2.1); rintro e w' ⟨rfl, ⟨nd, rfl⟩⟩; refine ⟨_, rfl, ?_⟩))
             go_meet
             case rel => exact ⟨_, ((t315 != t283)), Xr, H', ⟨by have := HJ12.out; have := HJ42.out; first | omega | exact Nat.le_refl _⟩, ⟨by (try simp only [hl290002_42]); (with_reducible repeat (first | apply Kd.R_alloc | apply Kd.R_drewN | apply Kd.R_drew)); exact Kd.R_mono HO_9.out (fun _ hk => trivial)⟩, ⟨by (try simp only [hl290002_42]); (with_reducible repeat (first | apply Kd.S_alloc | apply Kd.S_drewN | apply Kd.S_drew)); exact Kd.S_mono HO_290002.out (fun _ hk => hk.1.1.2)⟩, ⟨by (try simp only [hl290002_42]); exact BK273.out⟩, ⟨by (try simp only [hl290002_42]); exact BK289.out⟩, ⟨Xi⟩⟩
            ·replace c71 := Bool.eq_false_iff.mpr c71
             subst c71
             (first | rw [if_neg (show ¬ (false = true) by decide)] at H | skip)
             have H' := Aside0.mk H
             clear H
             obtain ⟨Ao74, co74, eo74⟩ := Kd.R_slice HO314.out
             subst eo74
             obtain ⟨Ao75, co75, eo75⟩ := Kd.R_slice HO_6.out
             subst eo75
             go_wp2_with (first | ((with_reducible refine gate_callee (f := 28) rfl ?_); refine Xgo 86 Try.func28 #[.slice Ao74 t312.length co74, .slice Ao75 t280.length co75] ?_; (with_reducible refine (laws_eqIntS.calls kj42 _ _ t312 _ _ t280 false _ ?side1 ?side2 ?side3 ?side4 A70.out).mono ?_); (case side1 => repeat (first | exact (Kd.R_reads' HO314.out).2.2 | (with_reducible first | refine Kd.C_alloc ?_ _ | refine Kd.C_drewN ?_ _ | refine Kd.C_drew ?_))); (case side2 => exact (Kd.R_reads' HO314.out).2.1); (case side3 => repeat (first | exact (Kd.R_reads' HO_6.out).2.2 | (with_reducible first | refine Kd.C_alloc ?_ _ | refine Kd.C_drewN ?_ _ | refine Kd.C_drew ?_))); (case side4 => exact (Kd.R_reads' HO_6.out).2.1); rintro e w' ⟨rfl, ⟨nd, rfl⟩⟩; refine ⟨_, rfl, ?_⟩))
             go_meet
             case rel => exact ⟨_, (true), Xr, H', ⟨by have := HJ12.out; have := HJ42.out; first | omega | exact Nat.le_refl _⟩, ⟨by (try simp only [hl290002_42]); (with_reducible repeat (first | apply Kd.R_alloc | apply Kd.R_drewN | apply Kd.R_drew)); exact Kd.R_mono HO_9.out (fun _ hk => trivial)⟩, ⟨by (try simp only [hl290002_42]); (with_reducible repeat (first | apply Kd.S_alloc | apply Kd.S_drewN | apply Kd.S_drew)); exact Kd.S_mono HO_290002.out (fun _ hk => hk.1.1.2)⟩, ⟨by (try simp only [hl290002_42]); exact BK273.out⟩, ⟨by (try simp only [hl290002_42]); exact BK289.out⟩, ⟨Xi⟩⟩
           case rest =>
            clear HC64
            (try clear c8); (try clear c8b0); (try clear c33); (try clear c41); (try clear c54); (try clear c60); (try clear c60b0); (try clear c61); (try clear c61b0); (try clear c61b1); (try clear hcz14_0); (try clear hcz14_1); (try clear hcz14_2); (try clear hcz18_0); (try clear hcz18_1); (try clear hcz18_2); (try clear hcz22_0); (try clear hcz22_1); (try clear hcz22_2); (try clear hcz25_0); (try clear hcz25_1); (try clear hcz25_2); (try clear hcz45_0); (try clear hcz45_1); (try clear hcz45_2); (try clear hcz66_0); (try clear hcz66_1); (try clear hcz66_2); (try clear hcz6_0); (try clear hcz6_1); (try clear hcz6_2); (try clear hfz14_0); (try clear hfz14_1); (try clear hfz14_2); (try clear hfz18_0); (try clear hfz18_1); (try clear hfz18_2); (try clear hfz22_0); (try clear hfz22_1); (try clear hfz22_2); (try clear hfz25_0); (try clear hfz25_1); (try clear hfz25_2); (try clear hfz45_0); (try clear hfz45_1); (try clear hfz45_2); (try clear hfz66_0); (try clear hfz66_1); (try clear hfz66_2); (try clear hfz6_0); (try clear hfz6_1); (try clear hfz6_2)
            obtain ⟨kq, x92_63, rfl, HA, HJ63, HO_9, HO_290002, BK273, BK289, HB⟩ := hcut
            have hl9_63 := (Kd.R_reads' HO_9.out).1
            rw [hl9_63] at HO_9
            (try simp only [hl9_63])
            (try simp only [hl9_63] at BK273)
            (try simp only [hl9_63] at BK289)
            (try simp only [hl9_63] at HO_290002)
            cases kq with
            | zero => cases HA.out
            | succ kj63 =>
             have H := HA.out
             clear HA
             simp only [laws_FnExactInOrder.j2] at H
             by_cases c76 : x92_63 = true
             ·subst c76
              (first | rw [if_pos rfl] at H | skip)
              cases H
             ·replace c76 := Bool.eq_false_iff.mpr c76
              subst c76
              (first | rw [if_neg (show ¬ (false = true) by decide)] at H | skip)
              obtain ⟨t317, A77, H⟩ := Xbi H
              (try dsimp only at H)
              have HC78 := Aside0.mk H
              clear H
              go_upto_if 97 with (first | ((with_reducible refine gate_callee (f := 31) rfl ?_); refine Xgo 95 Try.func31 #[.slice Ao58 t305.length co58, .int .i64 1] ?_; (with_reducible refine (laws_heldIntS.calls kj63 _ _ t305 1 t317 _ ?side1 ?side2 A77.out).mono ?_); (case side1 => repeat (first | exact (Kd.R_reads' HO_9.out).2.2 | (with_reducible first | refine Kd.C_alloc ?_ _ | refine Kd.C_drewN ?_ _ | refine Kd.C_drew ?_))); (case side2 => exact (Kd.R_reads' HO_9.out).2.1); rintro e w' ⟨rfl, ⟨nd, rfl⟩⟩; refine ⟨_, rfl, ?_⟩))
              (try (rw [drewN_self wc]; generalize hq_ : World.drewN wc _ = wc; have n0_ : Aside0 (Kd.S k43 43 wc w.heap.size (fun k_ => some k_ ≠ (.slice Ao58 t305.length co58 : Value).ownBlock) (.slice Ao23 t302.length co23) t302) := ⟨by rw [← hq_]; exact (Xq HO_290002)⟩; have n1_ : Aside0 (Kd.R (Kd.int .i64) 3 wc w.heap.size (fun _ => True) (.slice Ao58 t305.length co58) t305) := ⟨by rw [← hq_]; exact (Xq HO_9)⟩; have n2_ : Aside0 (wc.heap[gb273]? = some (.cells #[.int .i64 a0_0, .int .i64 a0_1, .slice A0_2 l0_2.length c0_2] 24 (0, 0))) := ⟨by rw [← hq_]; exact BK273.out⟩; have n3_ : Aside0 (wc.heap[gb289]? = some (.cells #[.int .i64 t284, .int .i64 t285, .slice Ao23 t302.length co23] 29 (0, 0))) := ⟨by rw [← hq_]; exact BK289.out⟩; have n4_ : Aside0 (Below w.heap.size w wc) := ⟨by rw [← hq_]; exact Xi⟩; clear HO_290002 HO_9 BK273 BK289 HB hq_; have HO_290002 := n0_; have HO_9 := n1_; have BK273 := n2_; have BK289 := n3_; have HB := n4_; clear n0_ n1_ n2_ n3_ n4_))
              have H := HC78.out
              clear HC78
              obtain ⟨c79b0, H⟩ | ⟨c79b0, H⟩ := Xit H
              ·(first | rw [c79b0] | (simp only [i64_w, i32_w]; rw [c79b0]) | skip)
               cases H
              ·(first | rw [c79b0] | (simp only [i64_w, i32_w]; rw [c79b0]) | skip)
               obtain ⟨c80, H⟩ | ⟨c80, H⟩ := Xiu H
               ·have c80b0 : (t317 == t304) = true := beq_iff_eq.mpr c80
                have c80b1 : (t317 != t304) = false := bne_eq_false_iff_eq.mpr c80
                clear c80
                go_wp2
                go_ret
                exact ⟨Xe, Xi⟩
               ·have c80b0 : (t317 == t304) = false := beq_eq_false_iff_ne.mpr c80
                have c80b1 : (t317 != t304) = true := bne_iff_ne.mpr c80
                cases H
          ·have c61b0 : (t306 == t304) = false := beq_eq_false_iff_ne.mpr c61
           have c61b1 : (t306 != t304) = true := bne_iff_ne.mpr c61
           cases H
     ·replace c41 := Bool.eq_false_iff.mpr c41
      subst c41
      (first | rw [if_neg (show ¬ (false = true) by decide)] at H | skip)
      cases H

end Go.Proofs.Ytpdhccdmbdbdpaa.XA
