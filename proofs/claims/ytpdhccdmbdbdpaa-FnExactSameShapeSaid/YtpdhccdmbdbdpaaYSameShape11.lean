/- Contracts of the program's functions: each Go function that is named below comes to what its Lean function says. Written by xprint.py (a program of this session's, over the kit's print). Conditions: each contract's own premises. -/
import Derived.Test.YtpdhccdmbdbdpaaYSameShape0
import Derived.Test.YtpdhccdmbdbdpaaYSameShape1
import Derived.Test.YtpdhccdmbdbdpaaYSameShape6
import Derived.Test.YtpdhccdmbdbdpaaYSameShape10
namespace Go.Proofs.Ytpdhccdmbdbdpaa.XA
open Go.RowKit Go.Proofs.YtpdhccdmbdbdpaaW.PrintWords Go.Proofs.YtpdhccdmbdbdpaaW.PrintLast Go.Proofs.YtpdhccdmbdbdpaaW.PrintMore XW
attribute [local go_sem] max2_int min2_int max_two min_two max_three min_three max_four min_four   -- for this text's walks alone
set_option linter.unusedVariables false
set_option linter.unusedSimpArgs false

/-! ### laws_eqDoc: function 17 -/
def laws_eqDoc.f (k : Nat) (a0_0 : Int) (a0_1 : Int) (l0_2 : List (S43)) (a1_0 : Int) (a1_1 : Int) (l1_2 : List (S43)) : Option (Bool) := if a0_0 = a1_0 then (if a0_1 = a1_1 then ((laws_eqNodeS.f k l0_2 l1_2).bind fun t273 => (if t273 = true then (some true) else (some false))) else (some false)) else (some false)
set_option maxHeartbeats 8000000 in
set_option maxRecDepth 100000 in
theorem laws_eqDoc.calls (k : Nat) (a0_0 : Int) (a0_1 : Int) (A0_2 : Option Addr) (c0_2 : Nat) (l0_2 : List (S43)) (a1_0 : Int) (a1_1 : Int) (A1_2 : Option Addr) (c1_2 : Nat) (l1_2 : List (S43)) (r : Bool) (w : World) (hr0_2 : Kd.C k43 w A0_2 l0_2.length l0_2) (hc0_2 : l0_2.length ≤ c0_2) (hr1_2 : Kd.C k43 w A1_2 l1_2.length l1_2) (hc1_2 : l1_2.length ≤ c1_2) (h : laws_eqDoc.f k a0_0 a0_1 l0_2 a1_0 a1_1 l1_2 = some r) :
  Calls Try.prog 17 #[.agg #[.int .i64 a0_0, .int .i64 a0_1, .slice A0_2 l0_2.length c0_2], .agg #[.int .i64 a1_0, .int .i64 a1_1, .slice A1_2 l1_2.length c1_2]] w fun e w' => e = .returned (.bool r) ∧ Below w.heap.size w w' := by
 have hu29 := Try.underlying29
 have HR0_2 := Aside0.mk hr0_2
 have HC0_2 := Aside0.mk hc0_2
 clear hr0_2 hc0_2
 have HR1_2 := Aside0.mk hr1_2
 have HC1_2 := Aside0.mk hc1_2
 clear hr1_2 hc1_2
 have HB := Aside0.mk (Below.refl w.heap.size w)
 have H : (if a0_0 = a1_0 then (if a0_1 = a1_1 then ((laws_eqNodeS.f k l0_2 l1_2).bind fun t273 => (if t273 = true then (some true) else (some false))) else (some false)) else (some false)) = some r := h
 clear h
 have HC3 := Aside0.mk H
 clear H
 go_enter Try.func17, Try.ntmps17
 go_upto_if 9 with (first | ((with_reducible refine gate_dst (N := 2) rfl ?_); refine Xbox 2 #[.int .i64 a0_0, .int .i64 a0_1, .slice A0_2 l0_2.length c0_2] 29 ?_; intro gb271 hg w4 hbox hb; have BK271 := Aside0.mk (hbox); have GE271 := Xge hg Xi; replace HB := Aside0.mk (below_step Xi hb); clear hb hbox hg) | ((with_reducible refine gate_dst (N := 3) rfl ?_); refine Xbox 3 #[.int .i64 a1_0, .int .i64 a1_1, .slice A1_2 l1_2.length c1_2] 29 ?_; intro gb272 hg w5 hbox hb; have BK272 := Aside0.mk (hbox); have GE272 := Xge hg Xi; replace HB := Aside0.mk (below_step Xi hb); have NB271_272 := Xnb hg BK271; have NB272_271 := Xns NB271_272; replace BK271 := Xbb BK271 hb; clear hb hbox hg; have hnb6 := NB271_272.out; have hnc6 := NB272_271.out; obtain ⟨hcz7_0, hcz7_1, hcz7_2⟩ := Xc3 BK271; obtain ⟨hcz8_0, hcz8_1, hcz8_2⟩ := Xc3 BK272))
 have H := HC3.out
 clear HC3
 obtain ⟨c9, H⟩ | ⟨c9, H⟩ := Xiu H
 ·have c9b0 : (a0_0 == a1_0) = true := beq_iff_eq.mpr c9
  have c9b1 : (a0_0 != a1_0) = false := bne_eq_false_iff_eq.mpr c9
  clear c9
  (first | rw [c9b0] | (simp only [i64_w, i32_w]; rw [c9b0]) | skip)
  obtain ⟨c10, H⟩ | ⟨c10, H⟩ := Xiu H
  ·have c10b0 : (a0_1 == a1_1) = true := beq_iff_eq.mpr c10
   have c10b1 : (a0_1 != a1_1) = false := bne_eq_false_iff_eq.mpr c10
   clear c10
   obtain ⟨t273, A11, H⟩ := Xbi H
   (try dsimp only at H)
   have HC12 := Aside0.mk H
   clear H
   have hnb13 := NB271_272.out
   have hnc13 := NB272_271.out
   obtain ⟨hcz14_0, hcz14_1, hcz14_2⟩ := Xc3 BK271
   obtain ⟨hcz15_0, hcz15_1, hcz15_2⟩ := Xc3 BK272
   go_upto_if 20 with (first | ((with_reducible refine gate_callee (f := 55) rfl ?_); refine Xgo 19 Try.func55 #[.slice A0_2 l0_2.length c0_2, .slice A1_2 l1_2.length c1_2] ?_; (with_reducible refine (laws_eqNodeS.calls k _ _ l0_2 _ _ l1_2 t273 _ ?side1 ?side2 ?side3 ?side4 A11.out).mono ?_); (case side1 => exact Xc HR0_2); (case side2 => exact HC0_2.out); (case side3 => exact Xc HR1_2); (case side4 => exact HC1_2.out); rintro e w16 ⟨rfl, hb⟩; refine ⟨_, rfl, ?_⟩; replace BK271 := Xbb BK271 hb; replace BK272 := Xbb BK272 hb; replace HB := Aside0.mk (below_step Xi hb); clear hb))
   have H := HC12.out
   clear HC12
   by_cases c17 : t273 = true
   ·subst c17
    (first | rw [if_pos rfl] at H | skip)
    obtain rfl := Option.some.inj H
    go_wp2
    go_ret
    exact ⟨Xe, Xi⟩
   ·replace c17 := Bool.eq_false_iff.mpr c17
    subst c17
    (first | rw [if_neg (show ¬ (false = true) by decide)] at H | skip)
    obtain rfl := Option.some.inj H
    go_wp2
    go_ret
    exact ⟨Xe, Xi⟩
  ·have c10b0 : (a0_1 == a1_1) = false := beq_eq_false_iff_ne.mpr c10
   have c10b1 : (a0_1 != a1_1) = true := bne_iff_ne.mpr c10
   obtain rfl := Option.some.inj H
   have hnb18 := NB271_272.out
   have hnc18 := NB272_271.out
   obtain ⟨hcz19_0, hcz19_1, hcz19_2⟩ := Xc3 BK271
   obtain ⟨hcz20_0, hcz20_1, hcz20_2⟩ := Xc3 BK272
   go_wp2
   go_ret
   exact ⟨Xe, Xi⟩
 ·have c9b0 : (a0_0 == a1_0) = false := beq_eq_false_iff_ne.mpr c9
  have c9b1 : (a0_0 != a1_0) = true := bne_iff_ne.mpr c9
  (first | rw [c9b0] | (simp only [i64_w, i32_w]; rw [c9b0]) | skip)
  obtain rfl := Option.some.inj H
  go_wp2
  go_ret
  exact ⟨Xe, Xi⟩

/-! ### laws_FnExactSameShape: function 3 -/
def laws_FnExactSameShape.f (k : Nat) (a0_0 : Int) (a0_1 : Int) (l0_2 : List (S112)) (a1_0 : Int) (a1_1 : Int) (l1_2 : List (S112)) : Option (Bool) := (laws_szDoc.f k a0_0 a0_1 l0_2 1048576).bind fun t276 => (if t276 < 0 then (some true) else ((laws_szDoc.f k a1_0 a1_1 l1_2 t276).bind fun t277 => (if t277 < 0 then (some true) else ((laws_toDoc.f k a0_0 a0_1 l0_2).bind fun bt278 => ((laws_toDoc.f k a1_0 a1_1 l1_2).bind fun bt283 => ((spec_SameShape.f k bt278.1 bt278.2.1 bt278.2.2 bt283.1 bt283.2.1 bt283.2.2).bind fun t288 => ((laws_toDoc.f k a0_0 a0_1 l0_2).bind fun bt289 => ((laws_toDoc.f k a1_0 a1_1 l1_2).bind fun bt295 => ((impl_SameShape.f k bt289.1 bt289.2.1 bt289.2.2 bt295.1 bt295.2.1 bt295.2.2).bind fun t301 => (if (t301 != t288) = true then (some false) else ((laws_toDoc.f k a0_0 a0_1 l0_2).bind fun bt302 => ((laws_eqDoc.f k bt289.1 bt289.2.1 bt289.2.2 bt302.1 bt302.2.1 bt302.2.2).bind fun t307 => (if t307 = true then ((laws_toDoc.f k a1_0 a1_1 l1_2).bind fun bt308 => ((laws_eqDoc.f k bt295.1 bt295.2.1 bt295.2.2 bt308.1 bt308.2.1 bt308.2.2).bind fun t313 => (if t313 = true then (some true) else (some false)))) else (some false))))))))))))))
set_option maxHeartbeats 8000000 in
set_option maxRecDepth 100000 in
theorem laws_FnExactSameShape.calls (k : Nat) (a0_0 : Int) (a0_1 : Int) (A0_2 : Option Addr) (c0_2 : Nat) (l0_2 : List (S112)) (a1_0 : Int) (a1_1 : Int) (A1_2 : Option Addr) (c1_2 : Nat) (l1_2 : List (S112)) (r : Bool) (w : World) (hr0_2 : Kd.C k112 w A0_2 l0_2.length l0_2) (hc0_2 : l0_2.length ≤ c0_2) (hr1_2 : Kd.C k112 w A1_2 l1_2.length l1_2) (hc1_2 : l1_2.length ≤ c1_2) (hr_ : r = true) (h : laws_FnExactSameShape.f k a0_0 a0_1 l0_2 a1_0 a1_1 l1_2 = some r) :
  Calls Try.prog 3 #[.agg #[.int .i64 a0_0, .int .i64 a0_1, .slice A0_2 l0_2.length c0_2], .agg #[.int .i64 a1_0, .int .i64 a1_1, .slice A1_2 l1_2.length c1_2]] w fun e w' => e = .returned (.bool r) ∧ Below w.heap.size w w' := by
 subst hr_
 have hu24 := Try.underlying24
 have hu29 := Try.underlying29
 have HR0_2 := Aside0.mk hr0_2
 have HC0_2 := Aside0.mk hc0_2
 clear hr0_2 hc0_2
 have HR1_2 := Aside0.mk hr1_2
 have HC1_2 := Aside0.mk hc1_2
 clear hr1_2 hc1_2
 have HB := Aside0.mk (Below.refl w.heap.size w)
 have H : ((laws_szDoc.f k a0_0 a0_1 l0_2 1048576).bind fun t276 => (if t276 < 0 then (some true) else ((laws_szDoc.f k a1_0 a1_1 l1_2 t276).bind fun t277 => (if t277 < 0 then (some true) else ((laws_toDoc.f k a0_0 a0_1 l0_2).bind fun bt278 => ((laws_toDoc.f k a1_0 a1_1 l1_2).bind fun bt283 => ((spec_SameShape.f k bt278.1 bt278.2.1 bt278.2.2 bt283.1 bt283.2.1 bt283.2.2).bind fun t288 => ((laws_toDoc.f k a0_0 a0_1 l0_2).bind fun bt289 => ((laws_toDoc.f k a1_0 a1_1 l1_2).bind fun bt295 => ((impl_SameShape.f k bt289.1 bt289.2.1 bt289.2.2 bt295.1 bt295.2.1 bt295.2.2).bind fun t301 => (if (t301 != t288) = true then (some false) else ((laws_toDoc.f k a0_0 a0_1 l0_2).bind fun bt302 => ((laws_eqDoc.f k bt289.1 bt289.2.1 bt289.2.2 bt302.1 bt302.2.1 bt302.2.2).bind fun t307 => (if t307 = true then ((laws_toDoc.f k a1_0 a1_1 l1_2).bind fun bt308 => ((laws_eqDoc.f k bt295.1 bt295.2.1 bt295.2.2 bt308.1 bt308.2.1 bt308.2.2).bind fun t313 => (if t313 = true then (some true) else (some false)))) else (some false))))))))))))))) = some true := h
 clear h
 obtain ⟨t276, A3, H⟩ := Xbi H
 (try dsimp only at H)
 have HC4 := Aside0.mk H
 clear H
 go_enter Try.func3, Try.ntmps3
 go_upto_if 14 with (first | ((with_reducible refine gate_dst (N := 2) rfl ?_); refine Xbox 2 #[.int .i64 a0_0, .int .i64 a0_1, .slice A0_2 l0_2.length c0_2] 24 ?_; intro gb274 hg w5 hbox hb; have BK274 := Aside0.mk (hbox); have GE274 := Xge hg Xi; replace HB := Aside0.mk (below_step Xi hb); clear hb hbox hg) | ((with_reducible refine gate_dst (N := 3) rfl ?_); refine Xbox 3 #[.int .i64 a1_0, .int .i64 a1_1, .slice A1_2 l1_2.length c1_2] 24 ?_; intro gb275 hg w6 hbox hb; have BK275 := Aside0.mk (hbox); have GE275 := Xge hg Xi; replace HB := Aside0.mk (below_step Xi hb); have NB274_275 := Xnb hg BK274; have NB275_274 := Xns NB274_275; replace BK274 := Xbb BK274 hb; clear hb hbox hg; have hnb7 := NB274_275.out; have hnc7 := NB275_274.out; obtain ⟨hcz8_0, hcz8_1, hcz8_2⟩ := Xc3 BK274; obtain ⟨hfz8_0, hfz8_1, hfz8_2⟩ := Xf3 BK274) | ((with_reducible refine gate_callee (f := 13) rfl ?_); refine Xgo 12 Try.func13 #[.agg #[.int .i64 a0_0, .int .i64 a0_1, .slice A0_2 l0_2.length c0_2], .int .i64 1048576] ?_; (with_reducible refine (laws_szDoc.calls k a0_0 a0_1 _ _ l0_2 1048576 t276 _ ?side1 ?side2 A3.out).mono ?_); (case side1 => exact Xc HR0_2); (case side2 => exact HC0_2.out); rintro e w9 ⟨rfl, hb⟩; refine ⟨_, rfl, ?_⟩; replace BK274 := Xbb BK274 hb; replace BK275 := Xbb BK275 hb; replace HB := Aside0.mk (below_step Xi hb); clear hb))
 have H := HC4.out
 clear HC4
 obtain ⟨c10b0, H⟩ | ⟨c10b0, H⟩ := Xit H
 ·(first | rw [c10b0] | (simp only [i64_w, i32_w]; rw [c10b0]) | skip)
  go_wp2
  go_ret
  exact ⟨Xe, Xi⟩
 ·(first | rw [c10b0] | (simp only [i64_w, i32_w]; rw [c10b0]) | skip)
  obtain ⟨t277, A11, H⟩ := Xbi H
  (try dsimp only at H)
  have HC12 := Aside0.mk H
  clear H
  have hnb13 := NB275_274.out
  have hnc13 := NB274_275.out
  obtain ⟨hcz14_0, hcz14_1, hcz14_2⟩ := Xc3 BK275
  obtain ⟨hfz14_0, hfz14_1, hfz14_2⟩ := Xf3 BK275
  go_upto_if 19 with (first | ((with_reducible refine gate_callee (f := 13) rfl ?_); refine Xgo 17 Try.func13 #[.agg #[.int .i64 a1_0, .int .i64 a1_1, .slice A1_2 l1_2.length c1_2], .int .i64 t276] ?_; (with_reducible refine (laws_szDoc.calls k a1_0 a1_1 _ _ l1_2 t276 t277 _ ?side1 ?side2 A11.out).mono ?_); (case side1 => exact Xc HR1_2); (case side2 => exact HC1_2.out); rintro e w15 ⟨rfl, hb⟩; refine ⟨_, rfl, ?_⟩; replace BK274 := Xbb BK274 hb; replace BK275 := Xbb BK275 hb; replace HB := Aside0.mk (below_step Xi hb); clear hb))
  have H := HC12.out
  clear HC12
  obtain ⟨c16b0, H⟩ | ⟨c16b0, H⟩ := Xit H
  ·(first | rw [c16b0] | (simp only [i64_w, i32_w]; rw [c16b0]) | skip)
   go_wp2
   go_ret
   exact ⟨Xe, Xi⟩
  ·(first | rw [c16b0] | (simp only [i64_w, i32_w]; rw [c16b0]) | skip)
   replace H := Option.bind_eq_some_iff.mp H
   obtain ⟨⟨t278, t279, t280⟩, A170, H⟩ := H
   (try dsimp only at H)
   have A17 := Aside0.mk A170
   clear A170
   replace H := Option.bind_eq_some_iff.mp H
   obtain ⟨⟨t283, t284, t285⟩, A180, H⟩ := H
   (try dsimp only at H)
   have A18 := Aside0.mk A180
   clear A180
   obtain ⟨t288, A19, H⟩ := Xbi H
   (try dsimp only at H)
   replace H := Option.bind_eq_some_iff.mp H
   obtain ⟨⟨t289, t290, t291⟩, A200, H⟩ := H
   (try dsimp only at H)
   have A20 := Aside0.mk A200
   clear A200
   replace H := Option.bind_eq_some_iff.mp H
   obtain ⟨⟨t295, t296, t297⟩, A210, H⟩ := H
   (try dsimp only at H)
   have A21 := Aside0.mk A210
   clear A210
   obtain ⟨t301, A22, H⟩ := Xbi H
   (try dsimp only at H)
   have HC23 := Aside0.mk H
   clear H
   try go_wp2_with (fail)
   replace BK274 := Aside0.mk (blk_drew BK274.out)
   replace BK275 := Aside0.mk (blk_drew BK275.out)
   replace HB := Aside0.mk (below_drew1 HB.out)
   refine start_ (n := 6) (S := fun w' => w'.cell? ⟨gb274, 0, none⟩ = some (.int .i64 a0_0) ∧ w'.cell? ⟨gb274, 1, none⟩ = some (.int .i64 a0_1) ∧ w'.cell? ⟨gb274, 2, none⟩ = some (.slice A0_2 l0_2.length c0_2) ∧ w'.cell? ⟨gb275, 0, none⟩ = some (.int .i64 a1_0) ∧ w'.cell? ⟨gb275, 1, none⟩ = some (.int .i64 a1_1) ∧ w'.cell? ⟨gb275, 2, none⟩ = some (.slice A1_2 l1_2.length c1_2)) (ds := []) #[false, false, false, false, false, false] (by kernel_rfl) rfl rfl ⟨(blk_cell BK274.out 0).trans rfl, (blk_cell BK274.out 1).trans rfl, (blk_cell BK274.out 2).trans rfl, (blk_cell BK275.out 0).trans rfl, (blk_cell BK275.out 1).trans rfl, (blk_cell BK275.out 2).trans rfl⟩ (fun hHeld => ?_)
   generalize w15.drew = w24 at BK274 BK275 HB hHeld ⊢
   refine take_ (i := 0) (N := some 20) (v := ?_) (a' := ?_) (XW.bs 6 1) rfl rfl (by kernel_rfl) (fun _ _ _ h => h) (Or.inl ⟨by rfl, ?_⟩) hHeld ?_ ?_
   rotate_left
   ·rintro w' ⟨s0, s1, s2, s3, s4, s5⟩
    go_simp
    with_reducible rfl
   rotate_left
   ·simp only [XW.q0, XW.q1, XW.q2, i64_w, i32_w]
    rfl
   refine take_ (i := 2) (N := some 22) (v := ?_) (a' := ?_) (XW.bs 6 5) rfl rfl (by kernel_rfl) (fun _ _ _ h => h) (Or.inl ⟨by rfl, ?_⟩) hHeld ?_ ?_
   rotate_left
   ·rintro w' ⟨s0, s1, s2, s3, s4, s5⟩
    go_simp
    with_reducible rfl
   rotate_left
   ·simp only [XW.q0, XW.q1, XW.q2, i64_w, i32_w]
    rfl
   refine one_ (i := 1) (N := some 21) (XW.bs 6 7) rfl rfl (by kernel_rfl) (by decide) (fun K hK => ?_)
   refine goes_ Try.func15 (by kernel_rfl) rfl #[.agg #[.int .i64 a0_0, .int .i64 a0_1, .slice A0_2 l0_2.length c0_2]] (by rfl) rfl rfl (by (try simp only [List.map_toArray, List.map_cons, List.map_nil]); first | done | rfl | (simp only [List.length_drop, List.length_take]; rfl)) ?_
   with_reducible refine (laws_toDoc.calls k a0_0 a0_1 _ _ l0_2 t278 t279 t280 _ ?side1 ?side2 A17.out).mono ?_
   (case side1 => exact Xc HR0_2)
   (case side2 => exact HC0_2.out)
   rintro e w25 ⟨v281, rfl, ho0, hb⟩
   refine ⟨_, rfl, ?_⟩
   have HO282 := Aside0.mk (Kd.S_lower ho0 (below_size Xi))
   replace BK274 := Xbb BK274 hb
   replace BK275 := Xbb BK275 hb
   replace HB := Aside0.mk (below_step Xi hb)
   (try clear hb)
   (try clear hb2)
   (try clear hk)
   (try clear hi)
   (try clear ho0)
   refine hK.out _ _ ⟨(blk_cell BK274.out 0).trans rfl, (blk_cell BK274.out 1).trans rfl, (blk_cell BK274.out 2).trans rfl, (blk_cell BK275.out 0).trans rfl, (blk_cell BK275.out 1).trans rfl, (blk_cell BK275.out 2).trans rfl⟩ (fun hHeld => ?_)
   clear hK K
   refine Xno ?_
   refine one_ (i := 3) (N := some 23) (XW.bs 6 15) rfl rfl (by kernel_rfl) (by decide) (fun K hK => ?_)
   refine goes_ Try.func15 (by kernel_rfl) rfl #[.agg #[.int .i64 a1_0, .int .i64 a1_1, .slice A1_2 l1_2.length c1_2]] (by rfl) rfl rfl (by (try simp only [List.map_toArray, List.map_cons, List.map_nil]); first | done | rfl | (simp only [List.length_drop, List.length_take]; rfl)) ?_
   with_reducible refine (laws_toDoc.calls k a1_0 a1_1 _ _ l1_2 t283 t284 t285 _ ?side1 ?side2 A18.out).mono ?_
   (case side1 => exact Xc HR1_2)
   (case side2 => exact HC1_2.out)
   rintro e w26 ⟨v286, rfl, ho0, hb⟩
   refine ⟨_, rfl, ?_⟩
   have HO287 := Aside0.mk (Kd.S_lower (Kd.S_new' ho0 (Kd.S_lt (Xq HO282))) (below_size Xi))
   replace HO282 := Aside0.mk (Kd.S_elder' (Xq HO282) (Kd.S_base ho0) hb)
   replace BK274 := Xbb BK274 hb
   replace BK275 := Xbb BK275 hb
   replace HB := Aside0.mk (below_step Xi hb)
   (try clear hb)
   (try clear hb2)
   (try clear hk)
   (try clear hi)
   (try clear ho0)
   obtain ⟨Ao27, co27, eo27⟩ := Kd.S_slice HO282.out
   (first | subst eo27 | (injection eo27 with f1_ f2_ f3_; have f4_ := f1_.symm; have f5_ := f3_.symm; clear f1_ f2_ f3_; subst f4_; subst f5_))
   obtain ⟨Ao28, co28, eo28⟩ := Kd.S_slice HO287.out
   (first | subst eo28 | (injection eo28 with f1_ f2_ f3_; have f4_ := f1_.symm; have f5_ := f3_.symm; clear f1_ f2_ f3_; subst f4_; subst f5_))
   refine hK.out _ _ ⟨(blk_cell BK274.out 0).trans rfl, (blk_cell BK274.out 1).trans rfl, (blk_cell BK274.out 2).trans rfl, (blk_cell BK275.out 0).trans rfl, (blk_cell BK275.out 1).trans rfl, (blk_cell BK275.out 2).trans rfl⟩ (fun hHeld => ?_)
   clear hK K
   refine Xno ?_
   refine one_ (i := 4) (N := some 24) (XW.bs 6 31) rfl rfl (by kernel_rfl) (by decide) (fun K hK => ?_)
   refine goes_ Try.func14 (by kernel_rfl) rfl #[.agg #[.int .i64 t278, .int .i64 t279, .slice Ao27 t280.length co27], .agg #[.int .i64 t283, .int .i64 t284, .slice Ao28 t285.length co28]] (by rfl) rfl rfl (by (try simp only [List.map_toArray, List.map_cons, List.map_nil]); first | done | rfl | (simp only [List.length_drop, List.length_take]; rfl)) ?_
   with_reducible refine (spec_SameShape.calls k t278 t279 _ _ t280 t283 t284 _ _ t285 t288 _ ?side1 ?side2 ?side3 ?side4 A19.out).mono ?_
   (case side1 => repeat (first | exact (Kd.S_reads' HO282.out).2.2 | (with_reducible first | refine Kd.C_alloc ?_ _ | refine Kd.C_drewN ?_ _ | refine Kd.C_drew ?_)))
   (case side2 => exact (Kd.S_reads' HO282.out).2.1)
   (case side3 => repeat (first | exact (Kd.S_reads' HO287.out).2.2 | (with_reducible first | refine Kd.C_alloc ?_ _ | refine Kd.C_drewN ?_ _ | refine Kd.C_drew ?_)))
   (case side4 => exact (Kd.S_reads' HO287.out).2.1)
   rintro e w29 ⟨rfl, hb⟩
   refine ⟨_, rfl, ?_⟩
   replace HO282 := Aside0.mk (Kd.S_below (Xq HO282) hb)
   replace HO287 := Aside0.mk (Kd.S_below (Xq HO287) hb)
   replace BK274 := Xbb BK274 hb
   replace BK275 := Xbb BK275 hb
   replace HB := Aside0.mk (below_step Xi hb)
   (try clear hb)
   (try clear hb2)
   (try clear hk)
   (try clear hi)
   refine hK.out _ _ ⟨(blk_cell BK274.out 0).trans rfl, (blk_cell BK274.out 1).trans rfl, (blk_cell BK274.out 2).trans rfl, (blk_cell BK275.out 0).trans rfl, (blk_cell BK275.out 1).trans rfl, (blk_cell BK275.out 2).trans rfl⟩ (fun hHeld => ?_)
   clear hK K
   refine Xno ?_
   refine pure_ (i := 5) (N := some 6) (v := ?_) (a' := ?_) (XW.bs 6 63) rfl rfl (by kernel_rfl) (fun _ _ _ h => h) (Or.inl ⟨by rfl, ?_⟩) ?_ ?_
   rotate_left
   ·intro w'
    go_simp
    with_reducible rfl
   rotate_left
   ·simp only [XW.q0, XW.q1, XW.q2, i64_w, i32_w]
    rfl
   refine done_ (by kernel_rfl) ?_
   have hnb30 := NB274_275.out
   have hnc30 := NB275_274.out
   obtain ⟨hcz31_0, hcz31_1, hcz31_2⟩ := Xc3 BK274
   obtain ⟨hfz31_0, hfz31_1, hfz31_2⟩ := Xf3 BK274
   go_upto_if 34 with (first | ((with_reducible refine gate_callee (f := 15) rfl ?_); refine Xgo 26 Try.func15 #[.agg #[.int .i64 a0_0, .int .i64 a0_1, .slice A0_2 l0_2.length c0_2]] ?_; (with_reducible refine (laws_toDoc.calls k a0_0 a0_1 _ _ l0_2 t289 t290 t291 _ ?side1 ?side2 A20.out).mono ?_); (case side1 => exact Xc HR0_2); (case side2 => exact HC0_2.out); rintro e w32 ⟨v292, rfl, ho0, hb⟩; refine ⟨_, rfl, ?_⟩; have HO293 := Aside0.mk (Kd.S_lower (Kd.S_new' (Kd.S_new' ho0 (Kd.S_lt (Xq HO282))) (Kd.S_lt (Xq HO287))) (below_size Xi)); replace HO282 := Aside0.mk (Kd.S_elder' (Xq HO282) (Kd.S_base ho0) hb); replace HO287 := Aside0.mk (Kd.S_elder' (Xq HO287) (Kd.S_base ho0) hb); replace BK274 := Xbb BK274 hb; replace BK275 := Xbb BK275 hb; replace HB := Aside0.mk (below_step Xi hb); clear hb; (try clear ho0)) | ((with_reducible refine gate_dst (N := 7) rfl ?_); refine Xbox 7 #[.int .i64 0, .int .i64 0, .slice none 0 0] 29 ?_; intro gb294 hg w33 hbox hb; replace HO282 := Aside0.mk (Kd.S_below (Xq HO282) hb); replace HO287 := Aside0.mk (Kd.S_below (Xq HO287) hb); replace HO293 := Aside0.mk (Kd.S_below (Xq HO293) hb); have BK294 := Aside0.mk (hbox); have GE294 := Xge hg Xi; replace HB := Aside0.mk (below_step Xi hb); have NB274_294 := Xnb hg BK274; have NB294_274 := Xns NB274_294; replace BK274 := Xbb BK274 hb; have NB275_294 := Xnb hg BK275; have NB294_275 := Xns NB275_294; replace BK275 := Xbb BK275 hb; clear hb hbox hg; have hnb34 := NB294_274.out; have hnc34 := NB274_294.out; have hnb35 := NB294_275.out; have hnc35 := NB275_294.out; obtain ⟨hcz36_0, hcz36_1, hcz36_2⟩ := Xc3 BK294; obtain ⟨hfz36_0, hfz36_1, hfz36_2⟩ := Xf3 BK294; obtain ⟨Ao37, co37, eo37⟩ := Kd.S_slice HO293.out; subst eo37) | ((with_reducible refine gate_store (t := 29) (p := 7) rfl ?_); refine store_event (t := 29) (p := 7) (v := ?vo_w38) (w1 := (((w33.setCell ⟨gb294, 0, none⟩ (.int .i64 t289)).setCell ⟨gb294, 1, none⟩ (.int .i64 t290)).setCell ⟨gb294, 2, none⟩ (.slice Ao37 t291.length co37))) ?hg ?ho ?hn ?hr ?_; (case ho => rfl); (case hg => rfl); (case hn => rfl); (case hr => first | (go_simp; done) | (go_simp; rfl)); intro w38 hw; have n0_ : Aside0 (Kd.S k43 43 w38 w.heap.size (fun k_ => some k_ ≠ (.slice Ao28 t285.length co28 : Value).ownBlock ∧ some k_ ≠ (.slice Ao37 t291.length co37 : Value).ownBlock) (.slice Ao27 t280.length co27) t280) := ⟨(by rw [hw]; exact (by (with_reducible repeat (first | apply Kd.S_alloc | apply Kd.S_drewN | apply Kd.S_drew)); exact Kd.S_mono (Kd.S_far (p := ⟨gb294, 2, none⟩) (Kd.S_far (p := ⟨gb294, 1, none⟩) (Kd.S_far (p := ⟨gb294, 0, none⟩) (Kd.S_types HO282.out BK294.out (by decide)) (fun _ hk => hk.2) (.int .i64 t289)) (fun _ hk => hk.2) (.int .i64 t290)) (fun _ hk => hk.2) (.slice Ao37 t291.length co37)) (fun _ hk => ⟨hk.1.1.2, hk.1.2⟩)))⟩; have n1_ : Aside0 (Kd.S k43 43 w38 w.heap.size (fun k_ => some k_ ≠ (.slice Ao27 t280.length co27 : Value).ownBlock ∧ some k_ ≠ (.slice Ao37 t291.length co37 : Value).ownBlock) (.slice Ao28 t285.length co28) t285) := ⟨(by rw [hw]; exact (by (with_reducible repeat (first | apply Kd.S_alloc | apply Kd.S_drewN | apply Kd.S_drew)); exact Kd.S_mono (Kd.S_far (p := ⟨gb294, 2, none⟩) (Kd.S_far (p := ⟨gb294, 1, none⟩) (Kd.S_far (p := ⟨gb294, 0, none⟩) (Kd.S_types HO287.out BK294.out (by decide)) (fun _ hk => hk.2) (.int .i64 t289)) (fun _ hk => hk.2) (.int .i64 t290)) (fun _ hk => hk.2) (.slice Ao37 t291.length co37)) (fun _ hk => ⟨hk.1.1.2, hk.1.2⟩)))⟩; have n2_ : Aside0 (Kd.S k43 43 w38 w.heap.size (fun k_ => some k_ ≠ (.slice Ao27 t280.length co27 : Value).ownBlock ∧ some k_ ≠ (.slice Ao28 t285.length co28 : Value).ownBlock) (.slice Ao37 t291.length co37) t291) := ⟨(by rw [hw]; exact (by (with_reducible repeat (first | apply Kd.S_alloc | apply Kd.S_drewN | apply Kd.S_drew)); exact Kd.S_mono (Kd.S_far (p := ⟨gb294, 2, none⟩) (Kd.S_far (p := ⟨gb294, 1, none⟩) (Kd.S_far (p := ⟨gb294, 0, none⟩) (Kd.S_types HO293.out BK294.out (by decide)) (fun _ hk => hk.2) (.int .i64 t289)) (fun _ hk => hk.2) (.int .i64 t290)) (fun _ hk => hk.2) (.slice Ao37 t291.length co37)) (fun _ hk => ⟨hk.1.1.2, hk.1.2⟩)))⟩; have n3_ : Aside0 (w38.heap[gb274]? = some (.cells #[.int .i64 a0_0, .int .i64 a0_1, .slice A0_2 l0_2.length c0_2] 24 (0, 0))) := ⟨(by rw [hw]; exact (by (with_reducible repeat (first | refine blk_drewN ?_ _ | refine blk_drew ?_ | refine blk_alloc ?_ _)); refine blk_far ?_ NB274_294.out _; (with_reducible repeat (first | refine blk_drewN ?_ _ | refine blk_drew ?_ | refine blk_alloc ?_ _)); refine blk_far ?_ NB274_294.out _; (with_reducible repeat (first | refine blk_drewN ?_ _ | refine blk_drew ?_ | refine blk_alloc ?_ _)); refine blk_far ?_ NB274_294.out _; (with_reducible repeat (first | refine blk_drewN ?_ _ | refine blk_drew ?_ | refine blk_alloc ?_ _)); exact BK274.out))⟩; have n4_ : Aside0 (w38.heap[gb275]? = some (.cells #[.int .i64 a1_0, .int .i64 a1_1, .slice A1_2 l1_2.length c1_2] 24 (0, 0))) := ⟨(by rw [hw]; exact (by (with_reducible repeat (first | refine blk_drewN ?_ _ | refine blk_drew ?_ | refine blk_alloc ?_ _)); refine blk_far ?_ NB275_294.out _; (with_reducible repeat (first | refine blk_drewN ?_ _ | refine blk_drew ?_ | refine blk_alloc ?_ _)); refine blk_far ?_ NB275_294.out _; (with_reducible repeat (first | refine blk_drewN ?_ _ | refine blk_drew ?_ | refine blk_alloc ?_ _)); refine blk_far ?_ NB275_294.out _; (with_reducible repeat (first | refine blk_drewN ?_ _ | refine blk_drew ?_ | refine blk_alloc ?_ _)); exact BK275.out))⟩; have n5_ : Aside0 (w38.heap[gb294]? = some (.cells #[.int .i64 t289, .int .i64 t290, .slice Ao37 t291.length co37] 29 (0, 0))) := ⟨(by rw [hw]; exact (by (with_reducible repeat (first | refine blk_drewN ?_ _ | refine blk_drew ?_ | refine blk_alloc ?_ _)); refine blk_put (cs := #[.int .i64 t289, .int .i64 t290, .slice none 0 0]) ?_ 2 _ rfl; (with_reducible repeat (first | refine blk_drewN ?_ _ | refine blk_drew ?_ | refine blk_alloc ?_ _)); refine blk_put (cs := #[.int .i64 t289, .int .i64 0, .slice none 0 0]) ?_ 1 _ rfl; (with_reducible repeat (first | refine blk_drewN ?_ _ | refine blk_drew ?_ | refine blk_alloc ?_ _)); refine blk_put (cs := #[.int .i64 0, .int .i64 0, .slice none 0 0]) ?_ 0 _ rfl; (with_reducible repeat (first | refine blk_drewN ?_ _ | refine blk_drew ?_ | refine blk_alloc ?_ _)); exact BK294.out))⟩; have n6_ : Aside0 (Below w.heap.size w w38) := ⟨(by rw [hw]; exact Xi)⟩; clear hw; clear HO282; clear HO287; clear HO293; clear BK274; clear BK275; clear BK294; clear HB; have HO282 := n0_; have HO287 := n1_; have HO293 := n2_; have BK274 := n3_; have BK275 := n4_; have BK294 := n5_; have HB := n6_; clear n0_ n1_ n2_ n3_ n4_ n5_ n6_; obtain ⟨hcz39_0, hcz39_1, hcz39_2⟩ := Xc3 BK275; obtain ⟨hfz39_0, hfz39_1, hfz39_2⟩ := Xf3 BK275) | ((with_reducible refine gate_callee (f := 15) rfl ?_); refine Xgo 28 Try.func15 #[.agg #[.int .i64 a1_0, .int .i64 a1_1, .slice A1_2 l1_2.length c1_2]] ?_; (with_reducible refine (laws_toDoc.calls k a1_0 a1_1 _ _ l1_2 t295 t296 t297 _ ?side1 ?side2 A21.out).mono ?_); (case side1 => exact Xc HR1_2); (case side2 => exact HC1_2.out); rintro e w40 ⟨v298, rfl, ho0, hb⟩; refine ⟨_, rfl, ?_⟩; have HO299 := Aside0.mk (Kd.S_lower (Kd.S_new' (Kd.S_new' (Kd.S_new' ho0 (Kd.S_lt (Xq HO282))) (Kd.S_lt (Xq HO287))) (Kd.S_lt (Xq HO293))) (below_size Xi)); replace HO282 := Aside0.mk (Kd.S_elder' (Xq HO282) (Kd.S_base ho0) hb); replace HO287 := Aside0.mk (Kd.S_elder' (Xq HO287) (Kd.S_base ho0) hb); replace HO293 := Aside0.mk (Kd.S_elder' (Xq HO293) (Kd.S_base ho0) hb); replace BK274 := Xbb BK274 hb; replace BK275 := Xbb BK275 hb; replace BK294 := Xbb BK294 hb; replace HB := Aside0.mk (below_step Xi hb); clear hb; (try clear ho0)) | ((with_reducible refine gate_dst (N := 8) rfl ?_); refine Xbox 8 #[.int .i64 0, .int .i64 0, .slice none 0 0] 29 ?_; intro gb300 hg w41 hbox hb; replace HO282 := Aside0.mk (Kd.S_below (Xq HO282) hb); replace HO287 := Aside0.mk (Kd.S_below (Xq HO287) hb); replace HO293 := Aside0.mk (Kd.S_below (Xq HO293) hb); replace HO299 := Aside0.mk (Kd.S_below (Xq HO299) hb); have BK300 := Aside0.mk (hbox); have GE300 := Xge hg Xi; replace HB := Aside0.mk (below_step Xi hb); have NB274_300 := Xnb hg BK274; have NB300_274 := Xns NB274_300; replace BK274 := Xbb BK274 hb; have NB275_300 := Xnb hg BK275; have NB300_275 := Xns NB275_300; replace BK275 := Xbb BK275 hb; have NB294_300 := Xnb hg BK294; have NB300_294 := Xns NB294_300; replace BK294 := Xbb BK294 hb; clear hb hbox hg; have hnb42 := NB300_274.out; have hnc42 := NB274_300.out; have hnb43 := NB300_275.out; have hnc43 := NB275_300.out; have hnb44 := NB300_294.out; have hnc44 := NB294_300.out; obtain ⟨hcz45_0, hcz45_1, hcz45_2⟩ := Xc3 BK300; obtain ⟨hfz45_0, hfz45_1, hfz45_2⟩ := Xf3 BK300; obtain ⟨Ao46, co46, eo46⟩ := Kd.S_slice HO299.out; subst eo46) | ((with_reducible refine gate_store (t := 29) (p := 8) rfl ?_); refine store_event (t := 29) (p := 8) (v := ?vo_w47) (w1 := (((w41.setCell ⟨gb300, 0, none⟩ (.int .i64 t295)).setCell ⟨gb300, 1, none⟩ (.int .i64 t296)).setCell ⟨gb300, 2, none⟩ (.slice Ao46 t297.length co46))) ?hg ?ho ?hn ?hr ?_; (case ho => rfl); (case hg => rfl); (case hn => rfl); (case hr => first | (go_simp; done) | (go_simp; rfl)); intro w47 hw; have n0_ : Aside0 (Kd.S k43 43 w47 w.heap.size (fun k_ => some k_ ≠ (.slice Ao28 t285.length co28 : Value).ownBlock ∧ some k_ ≠ (.slice Ao37 t291.length co37 : Value).ownBlock ∧ some k_ ≠ (.slice Ao46 t297.length co46 : Value).ownBlock) (.slice Ao27 t280.length co27) t280) := ⟨(by rw [hw]; exact (by (with_reducible repeat (first | apply Kd.S_alloc | apply Kd.S_drewN | apply Kd.S_drew)); exact Kd.S_mono (Kd.S_far (p := ⟨gb300, 2, none⟩) (Kd.S_far (p := ⟨gb300, 1, none⟩) (Kd.S_far (p := ⟨gb300, 0, none⟩) (Kd.S_types HO282.out BK300.out (by decide)) (fun _ hk => hk.2) (.int .i64 t295)) (fun _ hk => hk.2) (.int .i64 t296)) (fun _ hk => hk.2) (.slice Ao46 t297.length co46)) (fun _ hk => ⟨hk.1.1.1, ⟨hk.1.1.2, hk.1.2⟩⟩)))⟩; have n1_ : Aside0 (Kd.S k43 43 w47 w.heap.size (fun k_ => some k_ ≠ (.slice Ao27 t280.length co27 : Value).ownBlock ∧ some k_ ≠ (.slice Ao37 t291.length co37 : Value).ownBlock ∧ some k_ ≠ (.slice Ao46 t297.length co46 : Value).ownBlock) (.slice Ao28 t285.length co28) t285) := ⟨(by rw [hw]; exact (by (with_reducible repeat (first | apply Kd.S_alloc | apply Kd.S_drewN | apply Kd.S_drew)); exact Kd.S_mono (Kd.S_far (p := ⟨gb300, 2, none⟩) (Kd.S_far (p := ⟨gb300, 1, none⟩) (Kd.S_far (p := ⟨gb300, 0, none⟩) (Kd.S_types HO287.out BK300.out (by decide)) (fun _ hk => hk.2) (.int .i64 t295)) (fun _ hk => hk.2) (.int .i64 t296)) (fun _ hk => hk.2) (.slice Ao46 t297.length co46)) (fun _ hk => ⟨hk.1.1.1, ⟨hk.1.1.2, hk.1.2⟩⟩)))⟩; have n2_ : Aside0 (Kd.S k43 43 w47 w.heap.size (fun k_ => some k_ ≠ (.slice Ao27 t280.length co27 : Value).ownBlock ∧ some k_ ≠ (.slice Ao28 t285.length co28 : Value).ownBlock ∧ some k_ ≠ (.slice Ao46 t297.length co46 : Value).ownBlock) (.slice Ao37 t291.length co37) t291) := ⟨(by rw [hw]; exact (by (with_reducible repeat (first | apply Kd.S_alloc | apply Kd.S_drewN | apply Kd.S_drew)); exact Kd.S_mono (Kd.S_far (p := ⟨gb300, 2, none⟩) (Kd.S_far (p := ⟨gb300, 1, none⟩) (Kd.S_far (p := ⟨gb300, 0, none⟩) (Kd.S_types HO293.out BK300.out (by decide)) (fun _ hk => hk.2) (.int .i64 t295)) (fun _ hk => hk.2) (.int .i64 t296)) (fun _ hk => hk.2) (.slice Ao46 t297.length co46)) (fun _ hk => ⟨hk.1.1.1, ⟨hk.1.1.2, hk.1.2⟩⟩)))⟩; have n3_ : Aside0 (Kd.S k43 43 w47 w.heap.size (fun k_ => some k_ ≠ (.slice Ao27 t280.length co27 : Value).ownBlock ∧ some k_ ≠ (.slice Ao28 t285.length co28 : Value).ownBlock ∧ some k_ ≠ (.slice Ao37 t291.length co37 : Value).ownBlock) (.slice Ao46 t297.length co46) t297) := ⟨(by rw [hw]; exact (by (with_reducible repeat (first | apply Kd.S_alloc | apply Kd.S_drewN | apply Kd.S_drew)); exact Kd.S_mono (Kd.S_far (p := ⟨gb300, 2, none⟩) (Kd.S_far (p := ⟨gb300, 1, none⟩) (Kd.S_far (p := ⟨gb300, 0, none⟩) (Kd.S_types HO299.out BK300.out (by decide)) (fun _ hk => hk.2) (.int .i64 t295)) (fun _ hk => hk.2) (.int .i64 t296)) (fun _ hk => hk.2) (.slice Ao46 t297.length co46)) (fun _ hk => ⟨hk.1.1.1.2, ⟨hk.1.1.2, hk.1.2⟩⟩)))⟩; have n4_ : Aside0 (w47.heap[gb274]? = some (.cells #[.int .i64 a0_0, .int .i64 a0_1, .slice A0_2 l0_2.length c0_2] 24 (0, 0))) := ⟨(by rw [hw]; exact (by (with_reducible repeat (first | refine blk_drewN ?_ _ | refine blk_drew ?_ | refine blk_alloc ?_ _)); refine blk_far ?_ NB274_300.out _; (with_reducible repeat (first | refine blk_drewN ?_ _ | refine blk_drew ?_ | refine blk_alloc ?_ _)); refine blk_far ?_ NB274_300.out _; (with_reducible repeat (first | refine blk_drewN ?_ _ | refine blk_drew ?_ | refine blk_alloc ?_ _)); refine blk_far ?_ NB274_300.out _; (with_reducible repeat (first | refine blk_drewN ?_ _ | refine blk_drew ?_ | refine blk_alloc ?_ _)); exact BK274.out))⟩; have n5_ : Aside0 (w47.heap[gb275]? = some (.cells #[.int .i64 a1_0, .int .i64 a1_1, .slice A1_2 l1_2.length c1_2] 24 (0, 0))) := ⟨(by rw [hw]; exact (by (with_reducible repeat (first | refine blk_drewN ?_ _ | refine blk_drew ?_ | refine blk_alloc ?_ _)); refine blk_far ?_ NB275_300.out _; (with_reducible repeat (first | refine blk_drewN ?_ _ | refine blk_drew ?_ | refine blk_alloc ?_ _)); refine blk_far ?_ NB275_300.out _; (with_reducible repeat (first | refine blk_drewN ?_ _ | refine blk_drew ?_ | refine blk_alloc ?_ _)); refine blk_far ?_ NB275_300.out _; (with_reducible repeat (first | refine blk_drewN ?_ _ | refine blk_drew ?_ | refine blk_alloc ?_ _)); exact BK275.out))⟩; have n6_ : Aside0 (w47.heap[gb294]? = some (.cells #[.int .i64 t289, .int .i64 t290, .slice Ao37 t291.length co37] 29 (0, 0))) := ⟨(by rw [hw]; exact (by (with_reducible repeat (first | refine blk_drewN ?_ _ | refine blk_drew ?_ | refine blk_alloc ?_ _)); refine blk_far ?_ NB294_300.out _; (with_reducible repeat (first | refine blk_drewN ?_ _ | refine blk_drew ?_ | refine blk_alloc ?_ _)); refine blk_far ?_ NB294_300.out _; (with_reducible repeat (first | refine blk_drewN ?_ _ | refine blk_drew ?_ | refine blk_alloc ?_ _)); refine blk_far ?_ NB294_300.out _; (with_reducible repeat (first | refine blk_drewN ?_ _ | refine blk_drew ?_ | refine blk_alloc ?_ _)); exact BK294.out))⟩; have n7_ : Aside0 (w47.heap[gb300]? = some (.cells #[.int .i64 t295, .int .i64 t296, .slice Ao46 t297.length co46] 29 (0, 0))) := ⟨(by rw [hw]; exact (by (with_reducible repeat (first | refine blk_drewN ?_ _ | refine blk_drew ?_ | refine blk_alloc ?_ _)); refine blk_put (cs := #[.int .i64 t295, .int .i64 t296, .slice none 0 0]) ?_ 2 _ rfl; (with_reducible repeat (first | refine blk_drewN ?_ _ | refine blk_drew ?_ | refine blk_alloc ?_ _)); refine blk_put (cs := #[.int .i64 t295, .int .i64 0, .slice none 0 0]) ?_ 1 _ rfl; (with_reducible repeat (first | refine blk_drewN ?_ _ | refine blk_drew ?_ | refine blk_alloc ?_ _)); refine blk_put (cs := #[.int .i64 0, .int .i64 0, .slice none 0 0]) ?_ 0 _ rfl; (with_reducible repeat (first | refine blk_drewN ?_ _ | refine blk_drew ?_ | refine blk_alloc ?_ _)); exact BK300.out))⟩; have n8_ : Aside0 (Below w.heap.size w w47) := ⟨(by rw [hw]; exact Xi)⟩; clear hw; clear HO282; clear HO287; clear HO293; clear HO299; clear BK274; clear BK275; clear BK294; clear BK300; clear HB; have HO282 := n0_; have HO287 := n1_; have HO293 := n2_; have HO299 := n3_; have BK274 := n4_; have BK275 := n5_; have BK294 := n6_; have BK300 := n7_; have HB := n8_; clear n0_ n1_ n2_ n3_ n4_ n5_ n6_ n7_ n8_; obtain ⟨hcz48_0, hcz48_1, hcz48_2⟩ := Xc3 BK294; obtain ⟨hfz48_0, hfz48_1, hfz48_2⟩ := Xf3 BK294; obtain ⟨hcz49_0, hcz49_1, hcz49_2⟩ := Xc3 BK300; obtain ⟨hfz49_0, hfz49_1, hfz49_2⟩ := Xf3 BK300) | ((with_reducible refine gate_callee (f := 16) rfl ?_); refine Xgo 31 Try.func16 #[.agg #[.int .i64 t289, .int .i64 t290, .slice Ao37 t291.length co37], .agg #[.int .i64 t295, .int .i64 t296, .slice Ao46 t297.length co46]] ?_; (with_reducible refine (impl_SameShape.calls k t289 t290 _ _ t291 t295 t296 _ _ t297 t301 _ ?side1 ?side2 ?side3 ?side4 A22.out).mono ?_); (case side1 => repeat (first | exact (Kd.S_reads' HO293.out).2.2 | (with_reducible first | refine Kd.C_alloc ?_ _ | refine Kd.C_drewN ?_ _ | refine Kd.C_drew ?_))); (case side2 => exact (Kd.S_reads' HO293.out).2.1); (case side3 => repeat (first | exact (Kd.S_reads' HO299.out).2.2 | (with_reducible first | refine Kd.C_alloc ?_ _ | refine Kd.C_drewN ?_ _ | refine Kd.C_drew ?_))); (case side4 => exact (Kd.S_reads' HO299.out).2.1); rintro e w50 ⟨rfl, hb⟩; refine ⟨_, rfl, ?_⟩; replace HO282 := Aside0.mk (Kd.S_below (Xq HO282) hb); replace HO287 := Aside0.mk (Kd.S_below (Xq HO287) hb); replace HO293 := Aside0.mk (Kd.S_below (Xq HO293) hb); replace HO299 := Aside0.mk (Kd.S_below (Xq HO299) hb); replace BK274 := Xbb BK274 hb; replace BK275 := Xbb BK275 hb; replace BK294 := Xbb BK294 hb; replace BK300 := Xbb BK300 hb; replace HB := Aside0.mk (below_step Xi hb); clear hb))
   have H := HC23.out
   clear HC23
   obtain ⟨c51, H⟩ | ⟨c51, H⟩ := Xiu H
   ·have c51b0 : (t301 != t288) = true := c51
    (try (have c51b1 : decide (t301 = t288) = false := by simpa using c51))
    (try (have c51b2 : (t301 == t288) = false := by simpa using c51))
    (try (have c51b3 : ¬ (t301 = t288) := by simpa using c51))
    (try (have c51b4 : ((!t301) == t288) = true := by revert c51; cases t301 <;> cases t288 <;> simp))
    clear c51
    (first | rw [c51b0] | (simp only [i64_w, i32_w]; rw [c51b0]) | simp only [c51b2, Bool.not_true, Bool.not_false] | skip)
    cases H
   ·have c51b0 : (t301 != t288) = false := by simpa using c51
    (try (have c51b1 : decide (t301 = t288) = true := by simpa using c51))
    (try (have c51b2 : (t301 == t288) = true := by simpa using c51))
    (try (have c51b3 : ((!t301) == t288) = false := by revert c51; cases t301 <;> cases t288 <;> simp))
    clear c51
    (first | rw [c51b0] | (simp only [i64_w, i32_w]; rw [c51b0]) | simp only [c51b2, Bool.not_true, Bool.not_false] | skip)
    replace H := Option.bind_eq_some_iff.mp H
    obtain ⟨⟨t302, t303, t304⟩, A520, H⟩ := H
    (try dsimp only at H)
    have A52 := Aside0.mk A520
    clear A520
    obtain ⟨t307, A53, H⟩ := Xbi H
    (try dsimp only at H)
    have HC54 := Aside0.mk H
    clear H
    try go_wp2_with (fail)
    replace HO282 := Aside0.mk (Kd.S_drew HO282.out)
    replace HO287 := Aside0.mk (Kd.S_drew HO287.out)
    replace HO293 := Aside0.mk (Kd.S_drew HO293.out)
    replace HO299 := Aside0.mk (Kd.S_drew HO299.out)
    replace BK274 := Aside0.mk (blk_drew BK274.out)
    replace BK275 := Aside0.mk (blk_drew BK275.out)
    replace BK294 := Aside0.mk (blk_drew BK294.out)
    replace BK300 := Aside0.mk (blk_drew BK300.out)
    replace HB := Aside0.mk (below_drew1 HB.out)
    refine start_ (n := 5) (S := fun w' => w'.cell? ⟨gb294, 0, none⟩ = some (.int .i64 t289) ∧ w'.cell? ⟨gb294, 1, none⟩ = some (.int .i64 t290) ∧ w'.cell? ⟨gb294, 2, none⟩ = some (.slice Ao37 t291.length co37) ∧ w'.cell? ⟨gb274, 0, none⟩ = some (.int .i64 a0_0) ∧ w'.cell? ⟨gb274, 1, none⟩ = some (.int .i64 a0_1) ∧ w'.cell? ⟨gb274, 2, none⟩ = some (.slice A0_2 l0_2.length c0_2)) (ds := []) #[false, false, false, false, false] (by kernel_rfl) rfl rfl ⟨(blk_cell BK294.out 0).trans rfl, (blk_cell BK294.out 1).trans rfl, (blk_cell BK294.out 2).trans rfl, (blk_cell BK274.out 0).trans rfl, (blk_cell BK274.out 1).trans rfl, (blk_cell BK274.out 2).trans rfl⟩ (fun hHeld => ?_)
    generalize w50.drew = w55 at HO282 HO287 HO293 HO299 BK274 BK275 BK294 BK300 HB hHeld ⊢
    refine take_ (i := 0) (N := some 35) (v := ?_) (a' := ?_) #[true, false, false, false, false] rfl rfl (by kernel_rfl) (fun _ _ _ h => h) (Or.inl ⟨by rfl, ?_⟩) hHeld ?_ ?_
    rotate_left
    ·rintro w' ⟨s0, s1, s2, s3, s4, s5⟩
     go_simp
     with_reducible rfl
    rotate_left
    ·simp only [XW.q0, XW.q1, XW.q2, i64_w, i32_w]
     rfl
    refine take_ (i := 1) (N := some 36) (v := ?_) (a' := ?_) #[true, true, false, false, false] rfl rfl (by kernel_rfl) (fun _ _ _ h => h) (Or.inl ⟨by rfl, ?_⟩) hHeld ?_ ?_
    rotate_left
    ·rintro w' ⟨s0, s1, s2, s3, s4, s5⟩
     go_simp
     with_reducible rfl
    rotate_left
    ·simp only [XW.q0, XW.q1, XW.q2, i64_w, i32_w]
     rfl
    refine one_ (i := 2) (N := some 37) #[true, true, true, false, false] rfl rfl (by kernel_rfl) (by decide) (fun K hK => ?_)
    refine goes_ Try.func15 (by kernel_rfl) rfl #[.agg #[.int .i64 a0_0, .int .i64 a0_1, .slice A0_2 l0_2.length c0_2]] (by rfl) rfl rfl (by (try simp only [List.map_toArray, List.map_cons, List.map_nil]); first | done | rfl | (simp only [List.length_drop, List.length_take]; rfl)) ?_
    with_reducible refine (laws_toDoc.calls k a0_0 a0_1 _ _ l0_2 t302 t303 t304 _ ?side1 ?side2 A52.out).mono ?_
    (case side1 => exact Xc HR0_2)
    (case side2 => exact HC0_2.out)
    rintro e w56 ⟨v305, rfl, ho0, hb⟩
    refine ⟨_, rfl, ?_⟩
    have HO306 := Aside0.mk (Kd.S_lower (Kd.S_new' (Kd.S_new' (Kd.S_new' (Kd.S_new' ho0 (Kd.S_lt (Xq HO282))) (Kd.S_lt (Xq HO287))) (Kd.S_lt (Xq HO293))) (Kd.S_lt (Xq HO299))) (below_size Xi))
    replace HO282 := Aside0.mk (Kd.S_elder' (Xq HO282) (Kd.S_base ho0) hb)
    replace HO287 := Aside0.mk (Kd.S_elder' (Xq HO287) (Kd.S_base ho0) hb)
    replace HO293 := Aside0.mk (Kd.S_elder' (Xq HO293) (Kd.S_base ho0) hb)
    replace HO299 := Aside0.mk (Kd.S_elder' (Xq HO299) (Kd.S_base ho0) hb)
    replace BK274 := Xbb BK274 hb
    replace BK275 := Xbb BK275 hb
    replace BK294 := Xbb BK294 hb
    replace BK300 := Xbb BK300 hb
    replace HB := Aside0.mk (below_step Xi hb)
    (try clear hb)
    (try clear hb2)
    (try clear hk)
    (try clear hi)
    (try clear ho0)
    obtain ⟨Ao57, co57, eo57⟩ := Kd.S_slice HO306.out
    (first | subst eo57 | (injection eo57 with f1_ f2_ f3_; have f4_ := f1_.symm; have f5_ := f3_.symm; clear f1_ f2_ f3_; subst f4_; subst f5_))
    refine hK.out _ _ ⟨(blk_cell BK294.out 0).trans rfl, (blk_cell BK294.out 1).trans rfl, (blk_cell BK294.out 2).trans rfl, (blk_cell BK274.out 0).trans rfl, (blk_cell BK274.out 1).trans rfl, (blk_cell BK274.out 2).trans rfl⟩ (fun hHeld => ?_)
    clear hK K
    refine Xno ?_
    refine one_ (i := 3) (N := some 38) #[true, true, true, true, false] rfl rfl (by kernel_rfl) (by decide) (fun K hK => ?_)
    refine goes_ Try.func17 (by kernel_rfl) rfl #[.agg #[.int .i64 t289, .int .i64 t290, .slice Ao37 t291.length co37], .agg #[.int .i64 t302, .int .i64 t303, .slice Ao57 t304.length co57]] (by rfl) rfl rfl (by (try simp only [List.map_toArray, List.map_cons, List.map_nil]); first | done | rfl | (simp only [List.length_drop, List.length_take]; rfl)) ?_
    with_reducible refine (laws_eqDoc.calls k t289 t290 _ _ t291 t302 t303 _ _ t304 t307 _ ?side1 ?side2 ?side3 ?side4 A53.out).mono ?_
    (case side1 => repeat (first | exact (Kd.S_reads' HO293.out).2.2 | (with_reducible first | refine Kd.C_alloc ?_ _ | refine Kd.C_drewN ?_ _ | refine Kd.C_drew ?_)))
    (case side2 => exact (Kd.S_reads' HO293.out).2.1)
    (case side3 => repeat (first | exact (Kd.S_reads' HO306.out).2.2 | (with_reducible first | refine Kd.C_alloc ?_ _ | refine Kd.C_drewN ?_ _ | refine Kd.C_drew ?_)))
    (case side4 => exact (Kd.S_reads' HO306.out).2.1)
    rintro e w58 ⟨rfl, hb⟩
    refine ⟨_, rfl, ?_⟩
    replace HO282 := Aside0.mk (Kd.S_below (Xq HO282) hb)
    replace HO287 := Aside0.mk (Kd.S_below (Xq HO287) hb)
    replace HO293 := Aside0.mk (Kd.S_below (Xq HO293) hb)
    replace HO299 := Aside0.mk (Kd.S_below (Xq HO299) hb)
    replace HO306 := Aside0.mk (Kd.S_below (Xq HO306) hb)
    replace BK274 := Xbb BK274 hb
    replace BK275 := Xbb BK275 hb
    replace BK294 := Xbb BK294 hb
    replace BK300 := Xbb BK300 hb
    replace HB := Aside0.mk (below_step Xi hb)
    (try clear hb)
    (try clear hb2)
    (try clear hk)
    (try clear hi)
    refine hK.out _ _ ⟨(blk_cell BK294.out 0).trans rfl, (blk_cell BK294.out 1).trans rfl, (blk_cell BK294.out 2).trans rfl, (blk_cell BK274.out 0).trans rfl, (blk_cell BK274.out 1).trans rfl, (blk_cell BK274.out 2).trans rfl⟩ (fun hHeld => ?_)
    clear hK K
    refine Xno ?_
    refine pure_ (i := 4) (N := some 39) (v := ?_) (a' := ?_) #[true, true, true, true, true] rfl rfl (by kernel_rfl) (fun _ _ _ h => h) (Or.inl ⟨by rfl, ?_⟩) ?_ ?_
    rotate_left
    ·intro w'
     go_simp
     with_reducible rfl
    rotate_left
    ·simp only [XW.q0, XW.q1, XW.q2, i64_w, i32_w]
     rfl
    refine done_ (by kernel_rfl) ?_
    go_upto_if 39 with (fail)
    have H := HC54.out
    clear HC54
    by_cases c59 : t307 = true
    ·subst c59
     (first | rw [if_pos rfl] at H | skip)
     replace H := Option.bind_eq_some_iff.mp H
     obtain ⟨⟨t308, t309, t310⟩, A600, H⟩ := H
     (try dsimp only at H)
     have A60 := Aside0.mk A600
     clear A600
     obtain ⟨t313, A61, H⟩ := Xbi H
     (try dsimp only at H)
     have HC62 := Aside0.mk H
     clear H
     try go_wp2_with (fail)
     replace HO282 := Aside0.mk (Kd.S_drew HO282.out)
     replace HO287 := Aside0.mk (Kd.S_drew HO287.out)
     replace HO293 := Aside0.mk (Kd.S_drew HO293.out)
     replace HO299 := Aside0.mk (Kd.S_drew HO299.out)
     replace HO306 := Aside0.mk (Kd.S_drew HO306.out)
     replace BK274 := Aside0.mk (blk_drew BK274.out)
     replace BK275 := Aside0.mk (blk_drew BK275.out)
     replace BK294 := Aside0.mk (blk_drew BK294.out)
     replace BK300 := Aside0.mk (blk_drew BK300.out)
     replace HB := Aside0.mk (below_drew1 HB.out)
     refine start_ (n := 5) (S := fun w' => w'.cell? ⟨gb300, 0, none⟩ = some (.int .i64 t295) ∧ w'.cell? ⟨gb300, 1, none⟩ = some (.int .i64 t296) ∧ w'.cell? ⟨gb300, 2, none⟩ = some (.slice Ao46 t297.length co46) ∧ w'.cell? ⟨gb275, 0, none⟩ = some (.int .i64 a1_0) ∧ w'.cell? ⟨gb275, 1, none⟩ = some (.int .i64 a1_1) ∧ w'.cell? ⟨gb275, 2, none⟩ = some (.slice A1_2 l1_2.length c1_2)) (ds := []) #[false, false, false, false, false] (by kernel_rfl) rfl rfl ⟨(blk_cell BK300.out 0).trans rfl, (blk_cell BK300.out 1).trans rfl, (blk_cell BK300.out 2).trans rfl, (blk_cell BK275.out 0).trans rfl, (blk_cell BK275.out 1).trans rfl, (blk_cell BK275.out 2).trans rfl⟩ (fun hHeld => ?_)
     generalize w58.drew = w63 at HO282 HO287 HO293 HO299 HO306 BK274 BK275 BK294 BK300 HB hHeld ⊢
     refine take_ (i := 0) (N := some 40) (v := ?_) (a' := ?_) #[true, false, false, false, false] rfl rfl (by kernel_rfl) (fun _ _ _ h => h) (Or.inl ⟨by rfl, ?_⟩) hHeld ?_ ?_
     rotate_left
     ·rintro w' ⟨s0, s1, s2, s3, s4, s5⟩
      go_simp
      with_reducible rfl
     rotate_left
     ·simp only [XW.q0, XW.q1, XW.q2, i64_w, i32_w]
      rfl
     refine take_ (i := 1) (N := some 41) (v := ?_) (a' := ?_) #[true, true, false, false, false] rfl rfl (by kernel_rfl) (fun _ _ _ h => h) (Or.inl ⟨by rfl, ?_⟩) hHeld ?_ ?_
     rotate_left
     ·rintro w' ⟨s0, s1, s2, s3, s4, s5⟩
      go_simp
      with_reducible rfl
     rotate_left
     ·simp only [XW.q0, XW.q1, XW.q2, i64_w, i32_w]
      rfl
     refine one_ (i := 2) (N := some 42) #[true, true, true, false, false] rfl rfl (by kernel_rfl) (by decide) (fun K hK => ?_)
     refine goes_ Try.func15 (by kernel_rfl) rfl #[.agg #[.int .i64 a1_0, .int .i64 a1_1, .slice A1_2 l1_2.length c1_2]] (by rfl) rfl rfl (by (try simp only [List.map_toArray, List.map_cons, List.map_nil]); first | done | rfl | (simp only [List.length_drop, List.length_take]; rfl)) ?_
     with_reducible refine (laws_toDoc.calls k a1_0 a1_1 _ _ l1_2 t308 t309 t310 _ ?side1 ?side2 A60.out).mono ?_
     (case side1 => exact Xc HR1_2)
     (case side2 => exact HC1_2.out)
     rintro e w64 ⟨v311, rfl, ho0, hb⟩
     refine ⟨_, rfl, ?_⟩
     have HO312 := Aside0.mk (Kd.S_lower (Kd.S_new' (Kd.S_new' (Kd.S_new' (Kd.S_new' (Kd.S_new' ho0 (Kd.S_lt (Xq HO282))) (Kd.S_lt (Xq HO287))) (Kd.S_lt (Xq HO293))) (Kd.S_lt (Xq HO299))) (Kd.S_lt (Xq HO306))) (below_size Xi))
     replace HO282 := Aside0.mk (Kd.S_elder' (Xq HO282) (Kd.S_base ho0) hb)
     replace HO287 := Aside0.mk (Kd.S_elder' (Xq HO287) (Kd.S_base ho0) hb)
     replace HO293 := Aside0.mk (Kd.S_elder' (Xq HO293) (Kd.S_base ho0) hb)
     replace HO299 := Aside0.mk (Kd.S_elder' (Xq HO299) (Kd.S_base ho0) hb)
     replace HO306 := Aside0.mk (Kd.S_elder' (Xq HO306) (Kd.S_base ho0) hb)
     replace BK274 := Xbb BK274 hb
     replace BK275 := Xbb BK275 hb
     replace BK294 := Xbb BK294 hb
     replace BK300 := Xbb BK300 hb
     replace HB := Aside0.mk (below_step Xi hb)
     (try clear hb)
     (try clear hb2)
     (try clear hk)
     (try clear hi)
     (try clear ho0)
     obtain ⟨Ao65, co65, eo65⟩ := Kd.S_slice HO312.out
     (first | subst eo65 | (injection eo65 with f1_ f2_ f3_; have f4_ := f1_.symm; have f5_ := f3_.symm; clear f1_ f2_ f3_; subst f4_; subst f5_))
     refine hK.out _ _ ⟨(blk_cell BK300.out 0).trans rfl, (blk_cell BK300.out 1).trans rfl, (blk_cell BK300.out 2).trans rfl, (blk_cell BK275.out 0).trans rfl, (blk_cell BK275.out 1).trans rfl, (blk_cell BK275.out 2).trans rfl⟩ (fun hHeld => ?_)
     clear hK K
     refine Xno ?_
     refine one_ (i := 3) (N := some 43) #[true, true, true, true, false] rfl rfl (by kernel_rfl) (by decide) (fun K hK => ?_)
     refine goes_ Try.func17 (by kernel_rfl) rfl #[.agg #[.int .i64 t295, .int .i64 t296, .slice Ao46 t297.length co46], .agg #[.int .i64 t308, .int .i64 t309, .slice Ao65 t310.length co65]] (by rfl) rfl rfl (by (try simp only [List.map_toArray, List.map_cons, List.map_nil]); first | done | rfl | (simp only [List.length_drop, List.length_take]; rfl)) ?_
     with_reducible refine (laws_eqDoc.calls k t295 t296 _ _ t297 t308 t309 _ _ t310 t313 _ ?side1 ?side2 ?side3 ?side4 A61.out).mono ?_
     (case side1 => repeat (first | exact (Kd.S_reads' HO299.out).2.2 | (with_reducible first | refine Kd.C_alloc ?_ _ | refine Kd.C_drewN ?_ _ | refine Kd.C_drew ?_)))
     (case side2 => exact (Kd.S_reads' HO299.out).2.1)
     (case side3 => repeat (first | exact (Kd.S_reads' HO312.out).2.2 | (with_reducible first | refine Kd.C_alloc ?_ _ | refine Kd.C_drewN ?_ _ | refine Kd.C_drew ?_)))
     (case side4 => exact (Kd.S_reads' HO312.out).2.1)
     rintro e w66 ⟨rfl, hb⟩
     refine ⟨_, rfl, ?_⟩
     replace HO282 := Aside0.mk (Kd.S_below (Xq HO282) hb)
     replace HO287 := Aside0.mk (Kd.S_below (Xq HO287) hb)
     replace HO293 := Aside0.mk (Kd.S_below (Xq HO293) hb)
     replace HO299 := Aside0.mk (Kd.S_below (Xq HO299) hb)
     replace HO306 := Aside0.mk (Kd.S_below (Xq HO306) hb)
     replace HO312 := Aside0.mk (Kd.S_below (Xq HO312) hb)
     replace BK274 := Xbb BK274 hb
     replace BK275 := Xbb BK275 hb
     replace BK294 := Xbb BK294 hb
     replace BK300 := Xbb BK300 hb
     replace HB := Aside0.mk (below_step Xi hb)
     (try clear hb)
     (try clear hb2)
     (try clear hk)
     (try clear hi)
     refine hK.out _ _ ⟨(blk_cell BK300.out 0).trans rfl, (blk_cell BK300.out 1).trans rfl, (blk_cell BK300.out 2).trans rfl, (blk_cell BK275.out 0).trans rfl, (blk_cell BK275.out 1).trans rfl, (blk_cell BK275.out 2).trans rfl⟩ (fun hHeld => ?_)
     clear hK K
     refine Xno ?_
     refine pure_ (i := 4) (N := some 44) (v := ?_) (a' := ?_) #[true, true, true, true, true] rfl rfl (by kernel_rfl) (fun _ _ _ h => h) (Or.inl ⟨by rfl, ?_⟩) ?_ ?_
     rotate_left
     ·intro w'
      go_simp
      with_reducible rfl
     rotate_left
     ·simp only [XW.q0, XW.q1, XW.q2, i64_w, i32_w]
      rfl
     refine done_ (by kernel_rfl) ?_
     go_upto_if 44 with (fail)
     have H := HC62.out
     clear HC62
     by_cases c67 : t313 = true
     ·subst c67
      (first | rw [if_pos rfl] at H | skip)
      go_wp2
      go_ret
      exact ⟨Xe, Xi⟩
     ·replace c67 := Bool.eq_false_iff.mpr c67
      subst c67
      (first | rw [if_neg (show ¬ (false = true) by decide)] at H | skip)
      cases H
    ·replace c59 := Bool.eq_false_iff.mpr c59
     subst c59
     (first | rw [if_neg (show ¬ (false = true) by decide)] at H | skip)
     cases H

end Go.Proofs.Ytpdhccdmbdbdpaa.XA
