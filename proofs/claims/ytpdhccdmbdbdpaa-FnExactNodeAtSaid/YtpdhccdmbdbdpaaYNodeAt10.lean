/- Contracts of the program's functions: each Go function that is named below comes to what its Lean function says. Written by xprint.py (a program of this session's, over the kit's print). Conditions: each contract's own premises. -/
import Derived.Test.YtpdhccdmbdbdpaaYNodeAt0
import Derived.Test.YtpdhccdmbdbdpaaYNodeAt1
import Derived.Test.YtpdhccdmbdbdpaaYNodeAt2
import Derived.Test.YtpdhccdmbdbdpaaYNodeAt5
import Derived.Test.YtpdhccdmbdbdpaaYNodeAt9
import Derived.Test.YtpdhccdmbdbdpaaYNodeAtMarkDoc
namespace Go.Proofs.Ytpdhccdmbdbdpaa.XA
open Go.RowKit Go.Proofs.YtpdhccdmbdbdpaaW.PrintWords Go.Proofs.YtpdhccdmbdbdpaaW.PrintLast Go.Proofs.YtpdhccdmbdbdpaaW.PrintMore XW
attribute [local go_sem] max2_int min2_int max_two min_two max_three min_three max_four min_four   -- for this text's walks alone
set_option linter.unusedVariables false
set_option linter.unusedSimpArgs false

/-! ### laws_FnExactNodeAt: function 7 -/
mutual
def laws_FnExactNodeAt.j0 : Nat → Int → Int → Int → Bool → Int → Int → List (S112) → Int → Int → Int → ByteArray → List Int → Int → Int → List (S43) → Int → Int → Int → ByteArray → List Int → Option (Bool)
 | 0, _, _, _, _, _, _, _, _, _, _, _, _, _, _, _, _, _, _, _, _ => none
 | k + 1, x1, x7, x10, x44, x290000, x290001, x290002, x305000, x305001, x305002, x305003, x305004, x311000, x311001, x311002, x320000, x320001, x320002, x320003, x320004 => if x44 = true then (some false) else ((laws_toDoc.f k x290000 x290001 x290002).bind fun bt321 => ((laws_eqDoc.f k x311000 x311001 x311002 bt321.1 bt321.2.1 bt321.2.2).bind fun t326 => (if t326 = true then ((laws_markDoc.f k x311000 x311001 x311002 1).bind fun bt327 => (if bt327.1 < 0 then (laws_FnExactNodeAt.j1 k x1 x7 true x290000 x290001 x290002 x305000 x305001 x305002 x305003 x305004 x320000 x320001 x320002 x320003 x320004) else ((laws_eqNode.f k x320000 x320001 x320002 x320003 x320004 x305000 x305001 x305002 x305003 x305004).bind fun t329 => (if t329 = true then (laws_FnExactNodeAt.j1 k x1 x7 (x10 != x7) x290000 x290001 x290002 x305000 x305001 x305002 x305003 x305004 x320000 x320001 x320002 x320003 x320004) else (laws_FnExactNodeAt.j1 k x1 x7 true x290000 x290001 x290002 x305000 x305001 x305002 x305003 x305004 x320000 x320001 x320002 x320003 x320004))))) else (some false))))
def laws_FnExactNodeAt.j1 : Nat → Int → Int → Bool → Int → Int → List (S112) → Int → Int → Int → ByteArray → List Int → Int → Int → Int → ByteArray → List Int → Option (Bool)
 | 0, _, _, _, _, _, _, _, _, _, _, _, _, _, _, _, _ => none
 | k + 1, x1, x7, x65, x290000, x290001, x290002, x305000, x305001, x305002, x305003, x305004, x320000, x320001, x320002, x320003, x320004 => if x65 = true then (some false) else ((laws_markNode.f k x320000 x320001 x320002 x320003 x320004 1).bind fun bt330 => ((laws_heldNode.f k x320000 x320001 x320002 x320003 bt330.2 1).bind fun t332 => (if t332 < 0 then (some false) else (if t332 = bt330.1 then ((laws_toDoc.f k x290000 x290001 x290002).bind fun bt333 => ((impl_NodeAt.f k bt333.1 bt333.2.1 bt333.2.2 x1).bind fun bt338 => ((laws_eqNode.f k bt338.1 bt338.2.1 bt338.2.2.1 bt338.2.2.2.1 bt338.2.2.2.2.1 x305000 x305001 x305002 x305003 x305004).bind fun t347 => (if t347 = true then (laws_FnExactNodeAt.j2 k bt330.1 (bt338.2.2.2.2.2 != x7) x320000 x320001 x320002 x320003 bt330.2) else (laws_FnExactNodeAt.j2 k bt330.1 true x320000 x320001 x320002 x320003 bt330.2))))) else (some false)))))
def laws_FnExactNodeAt.j2 : Nat → Int → Bool → Int → Int → Int → ByteArray → List Int → Option (Bool)
 | 0, _, _, _, _, _, _, _ => none
 | k + 1, x12, x92, x320000, x320001, x320002, x320003, x320004 => if x92 = true then (some false) else ((laws_heldNode.f k x320000 x320001 x320002 x320003 x320004 1).bind fun t348 => (if t348 < 0 then (some false) else (if t348 = x12 then (some true) else (some false))))
end
def laws_FnExactNodeAt.f (k : Nat) (a0_0 : Int) (a0_1 : Int) (l0_2 : List (S112)) (a1 : Int) : Option (Bool) := (laws_szDoc.f k a0_0 a0_1 l0_2 1048576).bind fun t290 => (if t290 < 0 then (some true) else ((laws_toDoc.f k a0_0 a0_1 l0_2).bind fun bt291 => ((spec_NodeAt.f k bt291.1 bt291.2.1 bt291.2.2 a1).bind fun bt296 => ((laws_toDoc.f k a0_0 a0_1 l0_2).bind fun bt305 => ((impl_NodeAt.f k bt305.1 bt305.2.1 bt305.2.2 a1).bind fun bt311 => ((laws_eqNode.f k bt311.1 bt311.2.1 bt311.2.2.1 bt311.2.2.2.1 bt311.2.2.2.2.1 bt296.1 bt296.2.1 bt296.2.2.1 bt296.2.2.2.1 bt296.2.2.2.2.1).bind fun t320 => (if t320 = true then (laws_FnExactNodeAt.j0 k a1 bt296.2.2.2.2.2 bt311.2.2.2.2.2 (bt311.2.2.2.2.2 != bt296.2.2.2.2.2) a0_0 a0_1 l0_2 bt296.1 bt296.2.1 bt296.2.2.1 bt296.2.2.2.1 bt296.2.2.2.2.1 bt305.1 bt305.2.1 bt305.2.2 bt311.1 bt311.2.1 bt311.2.2.1 bt311.2.2.2.1 bt311.2.2.2.2.1) else (laws_FnExactNodeAt.j0 k a1 bt296.2.2.2.2.2 bt311.2.2.2.2.2 true a0_0 a0_1 l0_2 bt296.1 bt296.2.1 bt296.2.2.1 bt296.2.2.2.1 bt296.2.2.2.2.1 bt305.1 bt305.2.1 bt305.2.2 bt311.1 bt311.2.1 bt311.2.2.1 bt311.2.2.2.1 bt311.2.2.2.2.1))))))))
set_option maxHeartbeats 8000000 in
set_option maxRecDepth 100000 in
theorem laws_FnExactNodeAt.calls (k : Nat) (a0_0 : Int) (a0_1 : Int) (A0_2 : Option Addr) (c0_2 : Nat) (l0_2 : List (S112)) (a1 : Int) (r : Bool) (w : World) (hr0_2 : Kd.C k112 w A0_2 l0_2.length l0_2) (hc0_2 : l0_2.length ≤ c0_2) (hr_ : r = true) (h : laws_FnExactNodeAt.f k a0_0 a0_1 l0_2 a1 = some r) :
  Calls Try.prog 7 #[.agg #[.int .i64 a0_0, .int .i64 a0_1, .slice A0_2 l0_2.length c0_2], .int .i64 a1] w fun e w' => e = .returned (.bool r) ∧ Below w.heap.size w w' := by
 subst hr_
 have hu24 := Try.underlying24
 have hu43 := Try.underlying43
 have hu29 := Try.underlying29
 have HR0_2 := Aside0.mk hr0_2
 have HC0_2 := Aside0.mk hc0_2
 clear hr0_2 hc0_2
 have HB := Aside0.mk (Below.refl w.heap.size w)
 have H : ((laws_szDoc.f k a0_0 a0_1 l0_2 1048576).bind fun t290 => (if t290 < 0 then (some true) else ((laws_toDoc.f k a0_0 a0_1 l0_2).bind fun bt291 => ((spec_NodeAt.f k bt291.1 bt291.2.1 bt291.2.2 a1).bind fun bt296 => ((laws_toDoc.f k a0_0 a0_1 l0_2).bind fun bt305 => ((impl_NodeAt.f k bt305.1 bt305.2.1 bt305.2.2 a1).bind fun bt311 => ((laws_eqNode.f k bt311.1 bt311.2.1 bt311.2.2.1 bt311.2.2.2.1 bt311.2.2.2.2.1 bt296.1 bt296.2.1 bt296.2.2.1 bt296.2.2.2.1 bt296.2.2.2.2.1).bind fun t320 => (if t320 = true then (laws_FnExactNodeAt.j0 k a1 bt296.2.2.2.2.2 bt311.2.2.2.2.2 (bt311.2.2.2.2.2 != bt296.2.2.2.2.2) a0_0 a0_1 l0_2 bt296.1 bt296.2.1 bt296.2.2.1 bt296.2.2.2.1 bt296.2.2.2.2.1 bt305.1 bt305.2.1 bt305.2.2 bt311.1 bt311.2.1 bt311.2.2.1 bt311.2.2.2.1 bt311.2.2.2.2.1) else (laws_FnExactNodeAt.j0 k a1 bt296.2.2.2.2.2 bt311.2.2.2.2.2 true a0_0 a0_1 l0_2 bt296.1 bt296.2.1 bt296.2.2.1 bt296.2.2.2.1 bt296.2.2.2.2.1 bt305.1 bt305.2.1 bt305.2.2 bt311.1 bt311.2.1 bt311.2.2.1 bt311.2.2.2.1 bt311.2.2.2.2.1))))))))) = some true := h
 clear h
 obtain ⟨t290, A3, H⟩ := Xbi H
 (try dsimp only at H)
 have HC4 := Aside0.mk H
 clear H
 go_enter Try.func7, Try.ntmps7
 go_upto_if 20 with (first | ((with_reducible refine gate_dst (N := 2) rfl ?_); refine Xbox 2 #[.int .i64 a0_0, .int .i64 a0_1, .slice A0_2 l0_2.length c0_2] 24 ?_; intro gb289 hg w5 hbox hb; have BK289 := Aside0.mk (hbox); have GE289 := Xge hg Xi; replace HB := Aside0.mk (below_step Xi hb); clear hb hbox hg; obtain ⟨hcz6_0, hcz6_1, hcz6_2⟩ := Xc3 BK289; obtain ⟨hfz6_0, hfz6_1, hfz6_2⟩ := Xf3 BK289) | ((with_reducible refine gate_callee (f := 13) rfl ?_); refine Xgo 18 Try.func13 #[.agg #[.int .i64 a0_0, .int .i64 a0_1, .slice A0_2 l0_2.length c0_2], .int .i64 1048576] ?_; (with_reducible refine (laws_szDoc.calls k a0_0 a0_1 _ _ l0_2 1048576 t290 _ ?side1 ?side2 A3.out).mono ?_); (case side1 => exact Xc HR0_2); (case side2 => exact HC0_2.out); rintro e w7 ⟨rfl, hb⟩; refine ⟨_, rfl, ?_⟩; replace BK289 := Xbb BK289 hb; replace HB := Aside0.mk (below_step Xi hb); clear hb))
 have H := HC4.out
 clear HC4
 obtain ⟨c8b0, H⟩ | ⟨c8b0, H⟩ := Xit H
 ·(first | rw [c8b0] | (simp only [i64_w, i32_w]; rw [c8b0]) | skip)
  go_wp2
  go_ret
  exact ⟨Xe, Xi⟩
 ·(first | rw [c8b0] | (simp only [i64_w, i32_w]; rw [c8b0]) | skip)
  replace H := Option.bind_eq_some_iff.mp H
  obtain ⟨⟨t291, t292, t293⟩, A90, H⟩ := H
  (try dsimp only at H)
  have A9 := Aside0.mk A90
  clear A90
  replace H := Option.bind_eq_some_iff.mp H
  obtain ⟨⟨t296, t297, t298, t299, t300, t303⟩, A100, H⟩ := H
  (try dsimp only at H)
  have A10 := Aside0.mk A100
  clear A100
  replace H := Option.bind_eq_some_iff.mp H
  obtain ⟨⟨t305, t306, t307⟩, A110, H⟩ := H
  (try dsimp only at H)
  have A11 := Aside0.mk A110
  clear A110
  replace H := Option.bind_eq_some_iff.mp H
  obtain ⟨⟨t311, t312, t313, t314, t315, t318⟩, A120, H⟩ := H
  (try dsimp only at H)
  have A12 := Aside0.mk A120
  clear A120
  have HC13 := Aside0.mk H
  clear H
  obtain ⟨hcz14_0, hcz14_1, hcz14_2⟩ := Xc3 BK289
  obtain ⟨hfz14_0, hfz14_1, hfz14_2⟩ := Xf3 BK289
  go_upto_region 8 with (first | ((with_reducible refine gate_callee (f := 15) rfl ?_); refine Xgo 23 Try.func15 #[.agg #[.int .i64 a0_0, .int .i64 a0_1, .slice A0_2 l0_2.length c0_2]] ?_; (with_reducible refine (laws_toDoc.calls k a0_0 a0_1 _ _ l0_2 t291 t292 t293 _ ?side1 ?side2 A9.out).mono ?_); (case side1 => exact Xc HR0_2); (case side2 => exact HC0_2.out); rintro e w15 ⟨v294, rfl, ho0, hb⟩; refine ⟨_, rfl, ?_⟩; have HO295 := Aside0.mk (Kd.S_lower ho0 (below_size Xi)); replace BK289 := Xbb BK289 hb; replace HB := Aside0.mk (below_step Xi hb); clear hb; (try clear ho0); obtain ⟨Ao16, co16, eo16⟩ := Kd.S_slice HO295.out; subst eo16) | ((with_reducible refine gate_callee (f := 32) rfl ?_); refine Xgo 25 Try.func32 #[.agg #[.int .i64 t291, .int .i64 t292, .slice Ao16 t293.length co16], .int .i64 a1] ?_; (with_reducible refine (spec_NodeAt.calls k t291 t292 _ _ t293 a1 t296 t297 t298 t299 t300 t303 _ ?side1 ?side2 A10.out).mono ?_); (case side1 => repeat (first | exact (Kd.S_reads' HO295.out).2.2 | (with_reducible first | refine Kd.C_alloc ?_ _ | refine Kd.C_drewN ?_ _ | refine Kd.C_drew ?_))); (case side2 => exact (Kd.S_reads' HO295.out).2.1); rintro e w17 ⟨v301, rfl, ho0, hb⟩; refine ⟨_, rfl, ?_⟩; replace HO295 := Aside0.mk (Kd.S_elder' (Xq HO295) (Kd.R_base ho0) hb); have HO302 := Aside0.mk (Kd.R_lower ho0 (below_size Xi)); replace BK289 := Xbb BK289 hb; replace HB := Aside0.mk (below_step Xi hb); clear hb; (try clear ho0)) | ((with_reducible refine gate_dst (N := 6) rfl ?_); refine Xbox 6 #[.int .i64 0, .int .i64 0, .int .i64 0, .string (⟨#[]⟩ : ByteArray), .slice none 0 0] 43 ?_; intro gb304 hg w18 hbox hb; replace HO295 := Aside0.mk (Kd.S_below (Kd.S_elderB (Xq HO295) gb304 (Nat.le_of_eq hg.symm)) hb); replace HO302 := Aside0.mk (Kd.R_below (Xq HO302) hb); have BK304 := Aside0.mk (hbox); have GE304 := Xge hg Xi; replace HB := Aside0.mk (below_step Xi hb); have NB289_304 := Xnb hg BK289; have NB304_289 := Xns NB289_304; replace BK289 := Xbb BK289 hb; clear hb hbox hg; have hnb19 := NB304_289.out; have hnc19 := NB289_304.out; obtain ⟨hcz20_0, hcz20_1, hcz20_2, hcz20_3, hcz20_4⟩ := Xc5 BK304; obtain ⟨hfz20_0, hfz20_1, hfz20_2, hfz20_3, hfz20_4⟩ := Xf5 BK304; obtain ⟨Ao21, co21, eo21⟩ := Kd.R_slice HO302.out; subst eo21) | ((with_reducible refine gate_store (t := 43) (p := 6) rfl ?_); refine store_event (t := 43) (p := 6) (v := ?vo_w22) (w1 := (((((w18.setCell ⟨gb304, 0, none⟩ (.int .i64 t296)).setCell ⟨gb304, 1, none⟩ (.int .i64 t297)).setCell ⟨gb304, 2, none⟩ (.int .i64 t298)).setCell ⟨gb304, 3, none⟩ (.string t299)).setCell ⟨gb304, 4, none⟩ (.slice Ao21 t300.length co21))) ?hg ?ho ?hn ?hr ?_; (case ho => rfl); (case hg => rfl); (case hn => rfl); (case hr => first | (go_simp; done) | (go_simp; rfl)); intro w22 hw; have n0_ : Aside0 (Kd.S k43 43 w22 w.heap.size (fun k_ => some k_ ≠ (.slice Ao21 t300.length co21 : Value).ownBlock ∧ k_ ≠ gb304) (.slice Ao16 t293.length co16) t293) := ⟨(by rw [hw]; exact (by (with_reducible repeat (first | apply Kd.S_alloc | apply Kd.S_drewN | apply Kd.S_drew)); exact Kd.S_mono (Kd.S_far (p := ⟨gb304, 4, none⟩) (Kd.S_far (p := ⟨gb304, 3, none⟩) (Kd.S_far (p := ⟨gb304, 2, none⟩) (Kd.S_far (p := ⟨gb304, 1, none⟩) (Kd.S_far (p := ⟨gb304, 0, none⟩) (Kd.S_mono HO295.out (fun k_ hk => (⟨hk, hk.2⟩ : _ ∧ k_ ≠ gb304))) (fun _ hk => hk.2) (.int .i64 t296)) (fun _ hk => hk.2) (.int .i64 t297)) (fun _ hk => hk.2) (.int .i64 t298)) (fun _ hk => hk.2) (.string t299)) (fun _ hk => hk.2) (.slice Ao21 t300.length co21)) (fun _ hk => ⟨hk.1.1.2, hk.1.2⟩)))⟩; have n1_ : Aside0 (Kd.R (Kd.int .i64) 3 w22 w.heap.size (fun _ => True) (.slice Ao21 t300.length co21) t300) := ⟨(by rw [hw]; exact (by (with_reducible repeat (first | apply Kd.R_alloc | apply Kd.R_drewN | apply Kd.R_drew)); exact Kd.R_mono (Kd.R_far (p := ⟨gb304, 4, none⟩) (Kd.R_far (p := ⟨gb304, 3, none⟩) (Kd.R_far (p := ⟨gb304, 2, none⟩) (Kd.R_far (p := ⟨gb304, 1, none⟩) (Kd.R_far (p := ⟨gb304, 0, none⟩) (Kd.R_types HO302.out BK304.out (by decide)) (fun _ hk => hk.2) (.int .i64 t296)) (fun _ hk => hk.2) (.int .i64 t297)) (fun _ hk => hk.2) (.int .i64 t298)) (fun _ hk => hk.2) (.string t299)) (fun _ hk => hk.2) (.slice Ao21 t300.length co21)) (fun _ hk => trivial)))⟩; have n2_ : Aside0 (w22.heap[gb289]? = some (.cells #[.int .i64 a0_0, .int .i64 a0_1, .slice A0_2 l0_2.length c0_2] 24 (0, 0))) := ⟨(by rw [hw]; exact (by (with_reducible repeat (first | refine blk_drewN ?_ _ | refine blk_drew ?_ | refine blk_alloc ?_ _)); refine blk_far ?_ NB289_304.out _; (with_reducible repeat (first | refine blk_drewN ?_ _ | refine blk_drew ?_ | refine blk_alloc ?_ _)); refine blk_far ?_ NB289_304.out _; (with_reducible repeat (first | refine blk_drewN ?_ _ | refine blk_drew ?_ | refine blk_alloc ?_ _)); refine blk_far ?_ NB289_304.out _; (with_reducible repeat (first | refine blk_drewN ?_ _ | refine blk_drew ?_ | refine blk_alloc ?_ _)); refine blk_far ?_ NB289_304.out _; (with_reducible repeat (first | refine blk_drewN ?_ _ | refine blk_drew ?_ | refine blk_alloc ?_ _)); refine blk_far ?_ NB289_304.out _; (with_reducible repeat (first | refine blk_drewN ?_ _ | refine blk_drew ?_ | refine blk_alloc ?_ _)); exact BK289.out))⟩; have n3_ : Aside0 (w22.heap[gb304]? = some (.cells #[.int .i64 t296, .int .i64 t297, .int .i64 t298, .string t299, .slice Ao21 t300.length co21] 43 (0, 0))) := ⟨(by rw [hw]; exact (by (with_reducible repeat (first | refine blk_drewN ?_ _ | refine blk_drew ?_ | refine blk_alloc ?_ _)); refine blk_put (cs := #[.int .i64 t296, .int .i64 t297, .int .i64 t298, .string t299, .slice none 0 0]) ?_ 4 _ rfl; (with_reducible repeat (first | refine blk_drewN ?_ _ | refine blk_drew ?_ | refine blk_alloc ?_ _)); refine blk_put (cs := #[.int .i64 t296, .int .i64 t297, .int .i64 t298, .string (⟨#[]⟩ : ByteArray), .slice none 0 0]) ?_ 3 _ rfl; (with_reducible repeat (first | refine blk_drewN ?_ _ | refine blk_drew ?_ | refine blk_alloc ?_ _)); refine blk_put (cs := #[.int .i64 t296, .int .i64 t297, .int .i64 0, .string (⟨#[]⟩ : ByteArray), .slice none 0 0]) ?_ 2 _ rfl; (with_reducible repeat (first | refine blk_drewN ?_ _ | refine blk_drew ?_ | refine blk_alloc ?_ _)); refine blk_put (cs := #[.int .i64 t296, .int .i64 0, .int .i64 0, .string (⟨#[]⟩ : ByteArray), .slice none 0 0]) ?_ 1 _ rfl; (with_reducible repeat (first | refine blk_drewN ?_ _ | refine blk_drew ?_ | refine blk_alloc ?_ _)); refine blk_put (cs := #[.int .i64 0, .int .i64 0, .int .i64 0, .string (⟨#[]⟩ : ByteArray), .slice none 0 0]) ?_ 0 _ rfl; (with_reducible repeat (first | refine blk_drewN ?_ _ | refine blk_drew ?_ | refine blk_alloc ?_ _)); exact BK304.out))⟩; have n4_ : Aside0 (Below w.heap.size w w22) := ⟨(by rw [hw]; exact Xi)⟩; clear hw; clear HO295; clear HO302; clear BK289; clear BK304; clear HB; have HO295 := n0_; have HO302 := n1_; have BK289 := n2_; have BK304 := n3_; have HB := n4_; clear n0_ n1_ n2_ n3_ n4_; obtain ⟨hcz23_0, hcz23_1, hcz23_2⟩ := Xc3 BK289; obtain ⟨hfz23_0, hfz23_1, hfz23_2⟩ := Xf3 BK289) | ((with_reducible refine gate_callee (f := 15) rfl ?_); refine Xgo 29 Try.func15 #[.agg #[.int .i64 a0_0, .int .i64 a0_1, .slice A0_2 l0_2.length c0_2]] ?_; (with_reducible refine (laws_toDoc.calls k a0_0 a0_1 _ _ l0_2 t305 t306 t307 _ ?side1 ?side2 A11.out).mono ?_); (case side1 => exact Xc HR0_2); (case side2 => exact HC0_2.out); rintro e w24 ⟨v308, rfl, ho0, hb⟩; refine ⟨_, rfl, ?_⟩; have HO309 := Aside0.mk (Kd.S_lower (Kd.S_newB (Kd.S_new' (Kd.S_new' ho0 (Kd.S_lt (Xq HO295))) (Kd.R_lt (Xq HO302))) (g := gb304) (o := .cells #[.int .i64 t296, .int .i64 t297, .int .i64 t298, .string t299, .slice Ao21 t300.length co21] 43 (0, 0)) BK304.out) (below_size Xi)); replace HO295 := Aside0.mk (Kd.S_elder' (Xq HO295) (Kd.S_base ho0) hb); replace HO302 := Aside0.mk (Kd.R_below (Xq HO302) hb); replace BK289 := Xbb BK289 hb; replace BK304 := Xbb BK304 hb; replace HB := Aside0.mk (below_step Xi hb); clear hb; (try clear ho0)) | ((with_reducible refine gate_dst (N := 8) rfl ?_); refine Xbox 8 #[.int .i64 0, .int .i64 0, .slice none 0 0] 29 ?_; intro gb310 hg w25 hbox hb; replace HO295 := Aside0.mk (Kd.S_below (Xq HO295) hb); replace HO302 := Aside0.mk (Kd.R_below (Xq HO302) hb); replace HO309 := Aside0.mk (Kd.S_below (Xq HO309) hb); have BK310 := Aside0.mk (hbox); have GE310 := Xge hg Xi; replace HB := Aside0.mk (below_step Xi hb); have NB289_310 := Xnb hg BK289; have NB310_289 := Xns NB289_310; replace BK289 := Xbb BK289 hb; have NB304_310 := Xnb hg BK304; have NB310_304 := Xns NB304_310; replace BK304 := Xbb BK304 hb; clear hb hbox hg; have hnb26 := NB310_289.out; have hnc26 := NB289_310.out; have hnb27 := NB310_304.out; have hnc27 := NB304_310.out; obtain ⟨hcz28_0, hcz28_1, hcz28_2⟩ := Xc3 BK310; obtain ⟨hfz28_0, hfz28_1, hfz28_2⟩ := Xf3 BK310; obtain ⟨Ao29, co29, eo29⟩ := Kd.S_slice HO309.out; subst eo29) | ((with_reducible refine gate_store (t := 29) (p := 8) rfl ?_); refine store_event (t := 29) (p := 8) (v := ?vo_w30) (w1 := (((w25.setCell ⟨gb310, 0, none⟩ (.int .i64 t305)).setCell ⟨gb310, 1, none⟩ (.int .i64 t306)).setCell ⟨gb310, 2, none⟩ (.slice Ao29 t307.length co29))) ?hg ?ho ?hn ?hr ?_; (case ho => rfl); (case hg => rfl); (case hn => rfl); (case hr => first | (go_simp; done) | (go_simp; rfl)); intro w30 hw; have n0_ : Aside0 (Kd.S k43 43 w30 w.heap.size (fun k_ => some k_ ≠ (.slice Ao21 t300.length co21 : Value).ownBlock ∧ some k_ ≠ (.slice Ao29 t307.length co29 : Value).ownBlock ∧ k_ ≠ gb304) (.slice Ao16 t293.length co16) t293) := ⟨(by rw [hw]; exact (by (with_reducible repeat (first | apply Kd.S_alloc | apply Kd.S_drewN | apply Kd.S_drew)); exact Kd.S_mono (Kd.S_far (p := ⟨gb310, 2, none⟩) (Kd.S_far (p := ⟨gb310, 1, none⟩) (Kd.S_far (p := ⟨gb310, 0, none⟩) (Kd.S_types HO295.out BK310.out (by decide)) (fun _ hk => hk.2) (.int .i64 t305)) (fun _ hk => hk.2) (.int .i64 t306)) (fun _ hk => hk.2) (.slice Ao29 t307.length co29)) (fun _ hk => ⟨hk.1.1.1, ⟨hk.1.2, hk.1.1.2⟩⟩)))⟩; have n1_ : Aside0 (Kd.R (Kd.int .i64) 3 w30 w.heap.size (fun _ => True) (.slice Ao21 t300.length co21) t300) := ⟨(by rw [hw]; exact (by (with_reducible repeat (first | apply Kd.R_alloc | apply Kd.R_drewN | apply Kd.R_drew)); exact Kd.R_mono (Kd.R_far (p := ⟨gb310, 2, none⟩) (Kd.R_far (p := ⟨gb310, 1, none⟩) (Kd.R_far (p := ⟨gb310, 0, none⟩) (Kd.R_types HO302.out BK310.out (by decide)) (fun _ hk => hk.2) (.int .i64 t305)) (fun _ hk => hk.2) (.int .i64 t306)) (fun _ hk => hk.2) (.slice Ao29 t307.length co29)) (fun _ hk => trivial)))⟩; have n2_ : Aside0 (Kd.S k43 43 w30 w.heap.size (fun k_ => some k_ ≠ (.slice Ao16 t293.length co16 : Value).ownBlock ∧ some k_ ≠ (.slice Ao21 t300.length co21 : Value).ownBlock ∧ k_ ≠ gb304) (.slice Ao29 t307.length co29) t307) := ⟨(by rw [hw]; exact (by (with_reducible repeat (first | apply Kd.S_alloc | apply Kd.S_drewN | apply Kd.S_drew)); exact Kd.S_mono (Kd.S_far (p := ⟨gb310, 2, none⟩) (Kd.S_far (p := ⟨gb310, 1, none⟩) (Kd.S_far (p := ⟨gb310, 0, none⟩) (Kd.S_types HO309.out BK310.out (by decide)) (fun _ hk => hk.2) (.int .i64 t305)) (fun _ hk => hk.2) (.int .i64 t306)) (fun _ hk => hk.2) (.slice Ao29 t307.length co29)) (fun _ hk => ⟨hk.1.1.1.2, ⟨hk.1.1.2, hk.1.2⟩⟩)))⟩; have n3_ : Aside0 (w30.heap[gb289]? = some (.cells #[.int .i64 a0_0, .int .i64 a0_1, .slice A0_2 l0_2.length c0_2] 24 (0, 0))) := ⟨(by rw [hw]; exact (by (with_reducible repeat (first | refine blk_drewN ?_ _ | refine blk_drew ?_ | refine blk_alloc ?_ _)); refine blk_far ?_ NB289_310.out _; (with_reducible repeat (first | refine blk_drewN ?_ _ | refine blk_drew ?_ | refine blk_alloc ?_ _)); refine blk_far ?_ NB289_310.out _; (with_reducible repeat (first | refine blk_drewN ?_ _ | refine blk_drew ?_ | refine blk_alloc ?_ _)); refine blk_far ?_ NB289_310.out _; (with_reducible repeat (first | refine blk_drewN ?_ _ | refine blk_drew ?_ | refine blk_alloc ?_ _)); exact BK289.out))⟩; have n4_ : Aside0 (w30.heap[gb304]? = some (.cells #[.int .i64 t296, .int .i64 t297, .int .i64 t298, .string t299, .slice Ao21 t300.length co21] 43 (0, 0))) := ⟨(by rw [hw]; exact (by (with_reducible repeat (first | refine blk_drewN ?_ _ | refine blk_drew ?_ | refine blk_alloc ?_ _)); refine blk_far ?_ NB304_310.out _; (with_reducible repeat (first | refine blk_drewN ?_ _ | refine blk_drew ?_ | refine blk_alloc ?_ _)); refine blk_far ?_ NB304_310.out _; (with_reducible repeat (first | refine blk_drewN ?_ _ | refine blk_drew ?_ | refine blk_alloc ?_ _)); refine blk_far ?_ NB304_310.out _; (with_reducible repeat (first | refine blk_drewN ?_ _ | refine blk_drew ?_ | refine blk_alloc ?_ _)); exact BK304.out))⟩; have n5_ : Aside0 (w30.heap[gb310]? = some (.cells #[.int .i64 t305, .int .i64 t306, .slice Ao29 t307.length co29] 29 (0, 0))) := ⟨(by rw [hw]; exact (by (with_reducible repeat (first | refine blk_drewN ?_ _ | refine blk_drew ?_ | refine blk_alloc ?_ _)); refine blk_put (cs := #[.int .i64 t305, .int .i64 t306, .slice none 0 0]) ?_ 2 _ rfl; (with_reducible repeat (first | refine blk_drewN ?_ _ | refine blk_drew ?_ | refine blk_alloc ?_ _)); refine blk_put (cs := #[.int .i64 t305, .int .i64 0, .slice none 0 0]) ?_ 1 _ rfl; (with_reducible repeat (first | refine blk_drewN ?_ _ | refine blk_drew ?_ | refine blk_alloc ?_ _)); refine blk_put (cs := #[.int .i64 0, .int .i64 0, .slice none 0 0]) ?_ 0 _ rfl; (with_reducible repeat (first | refine blk_drewN ?_ _ | refine blk_drew ?_ | refine blk_alloc ?_ _)); exact BK310.out))⟩; have n6_ : Aside0 (Below w.heap.size w w30) := ⟨(by rw [hw]; exact Xi)⟩; clear hw; clear HO295; clear HO302; clear HO309; clear BK289; clear BK304; clear BK310; clear HB; have HO295 := n0_; have HO302 := n1_; have HO309 := n2_; have BK289 := n3_; have BK304 := n4_; have BK310 := n5_; have HB := n6_; clear n0_ n1_ n2_ n3_ n4_ n5_ n6_; obtain ⟨hcz31_0, hcz31_1, hcz31_2⟩ := Xc3 BK310; obtain ⟨hfz31_0, hfz31_1, hfz31_2⟩ := Xf3 BK310) | ((with_reducible refine gate_callee (f := 26) rfl ?_); refine Xgo 33 Try.func26 #[.agg #[.int .i64 t305, .int .i64 t306, .slice Ao29 t307.length co29], .int .i64 a1] ?_; (with_reducible refine (impl_NodeAt.calls k t305 t306 _ _ t307 a1 t311 t312 t313 t314 t315 t318 _ ?side1 ?side2 A12.out).mono ?_); (case side1 => repeat (first | exact (Kd.S_reads' HO309.out).2.2 | (with_reducible first | refine Kd.C_alloc ?_ _ | refine Kd.C_drewN ?_ _ | refine Kd.C_drew ?_))); (case side2 => exact (Kd.S_reads' HO309.out).2.1); rintro e w32 ⟨v316, rfl, ho0, hb⟩; refine ⟨_, rfl, ?_⟩; replace HO295 := Aside0.mk (Kd.S_elder' (Xq HO295) (Kd.R_base ho0) hb); replace HO309 := Aside0.mk (Kd.S_elder' (Xq HO309) (Kd.R_base ho0) hb); have HO317 := Aside0.mk (Kd.R_lower (Kd.R_new' ho0 (Kd.R_lt (Xq HO302))) (below_size Xi)); replace HO302 := Aside0.mk (Kd.R_elder' (Xq HO302) (Kd.R_base ho0) hb); replace BK289 := Xbb BK289 hb; replace BK304 := Xbb BK304 hb; replace BK310 := Xbb BK310 hb; replace HB := Aside0.mk (below_step Xi hb); clear hb; (try clear ho0)) | ((with_reducible refine gate_dst (N := 9) rfl ?_); refine Xbox 9 #[.int .i64 0, .int .i64 0, .int .i64 0, .string (⟨#[]⟩ : ByteArray), .slice none 0 0] 43 ?_; intro gb319 hg w33 hbox hb; replace HO295 := Aside0.mk (Kd.S_below (Kd.S_elderB (Xq HO295) gb319 (Nat.le_of_eq hg.symm)) hb); replace HO302 := Aside0.mk (Kd.R_below (Xq HO302) hb); replace HO309 := Aside0.mk (Kd.S_below (Kd.S_elderB (Xq HO309) gb319 (Nat.le_of_eq hg.symm)) hb); replace HO317 := Aside0.mk (Kd.R_below (Xq HO317) hb); have BK319 := Aside0.mk (hbox); have GE319 := Xge hg Xi; replace HB := Aside0.mk (below_step Xi hb); have NB289_319 := Xnb hg BK289; have NB319_289 := Xns NB289_319; replace BK289 := Xbb BK289 hb; have NB304_319 := Xnb hg BK304; have NB319_304 := Xns NB304_319; replace BK304 := Xbb BK304 hb; have NB310_319 := Xnb hg BK310; have NB319_310 := Xns NB310_319; replace BK310 := Xbb BK310 hb; clear hb hbox hg; have hnb34 := NB319_289.out; have hnc34 := NB289_319.out; have hnb35 := NB319_304.out; have hnc35 := NB304_319.out; have hnb36 := NB319_310.out; have hnc36 := NB310_319.out; obtain ⟨hcz37_0, hcz37_1, hcz37_2, hcz37_3, hcz37_4⟩ := Xc5 BK319; obtain ⟨hfz37_0, hfz37_1, hfz37_2, hfz37_3, hfz37_4⟩ := Xf5 BK319; obtain ⟨Ao38, co38, eo38⟩ := Kd.R_slice HO317.out; subst eo38) | ((with_reducible refine gate_store (t := 43) (p := 9) rfl ?_); refine store_event (t := 43) (p := 9) (v := ?vo_w39) (w1 := (((((w33.setCell ⟨gb319, 0, none⟩ (.int .i64 t311)).setCell ⟨gb319, 1, none⟩ (.int .i64 t312)).setCell ⟨gb319, 2, none⟩ (.int .i64 t313)).setCell ⟨gb319, 3, none⟩ (.string t314)).setCell ⟨gb319, 4, none⟩ (.slice Ao38 t315.length co38))) ?hg ?ho ?hn ?hr ?_; (case ho => rfl); (case hg => rfl); (case hn => rfl); (case hr => first | (go_simp; done) | (go_simp; rfl)); intro w39 hw; have n0_ : Aside0 (Kd.S k43 43 w39 w.heap.size (fun k_ => some k_ ≠ (.slice Ao21 t300.length co21 : Value).ownBlock ∧ some k_ ≠ (.slice Ao29 t307.length co29 : Value).ownBlock ∧ some k_ ≠ (.slice Ao38 t315.length co38 : Value).ownBlock ∧ k_ ≠ gb304 ∧ k_ ≠ gb319) (.slice Ao16 t293.length co16) t293) := ⟨(by rw [hw]; exact (by (with_reducible repeat (first | apply Kd.S_alloc | apply Kd.S_drewN | apply Kd.S_drew)); exact Kd.S_mono (Kd.S_far (p := ⟨gb319, 4, none⟩) (Kd.S_far (p := ⟨gb319, 3, none⟩) (Kd.S_far (p := ⟨gb319, 2, none⟩) (Kd.S_far (p := ⟨gb319, 1, none⟩) (Kd.S_far (p := ⟨gb319, 0, none⟩) (Kd.S_mono HO295.out (fun k_ hk => (⟨hk, hk.2⟩ : _ ∧ k_ ≠ gb319))) (fun _ hk => hk.2) (.int .i64 t311)) (fun _ hk => hk.2) (.int .i64 t312)) (fun _ hk => hk.2) (.int .i64 t313)) (fun _ hk => hk.2) (.string t314)) (fun _ hk => hk.2) (.slice Ao38 t315.length co38)) (fun _ hk => ⟨hk.1.1.1.1, ⟨hk.1.1.1.2.1, ⟨hk.1.1.2, ⟨hk.1.1.1.2.2, hk.1.2⟩⟩⟩⟩)))⟩; have n1_ : Aside0 (Kd.R (Kd.int .i64) 3 w39 w.heap.size (fun k_ => some k_ ≠ (.slice Ao38 t315.length co38 : Value).ownBlock) (.slice Ao21 t300.length co21) t300) := ⟨(by rw [hw]; exact (by (with_reducible repeat (first | apply Kd.R_alloc | apply Kd.R_drewN | apply Kd.R_drew)); exact Kd.R_mono (Kd.R_far (p := ⟨gb319, 4, none⟩) (Kd.R_far (p := ⟨gb319, 3, none⟩) (Kd.R_far (p := ⟨gb319, 2, none⟩) (Kd.R_far (p := ⟨gb319, 1, none⟩) (Kd.R_far (p := ⟨gb319, 0, none⟩) (Kd.R_types HO302.out BK319.out (by decide)) (fun _ hk => hk.2) (.int .i64 t311)) (fun _ hk => hk.2) (.int .i64 t312)) (fun _ hk => hk.2) (.int .i64 t313)) (fun _ hk => hk.2) (.string t314)) (fun _ hk => hk.2) (.slice Ao38 t315.length co38)) (fun _ hk => hk.1.2)))⟩; have n2_ : Aside0 (Kd.S k43 43 w39 w.heap.size (fun k_ => some k_ ≠ (.slice Ao16 t293.length co16 : Value).ownBlock ∧ some k_ ≠ (.slice Ao21 t300.length co21 : Value).ownBlock ∧ some k_ ≠ (.slice Ao38 t315.length co38 : Value).ownBlock ∧ k_ ≠ gb304 ∧ k_ ≠ gb319) (.slice Ao29 t307.length co29) t307) := ⟨(by rw [hw]; exact (by (with_reducible repeat (first | apply Kd.S_alloc | apply Kd.S_drewN | apply Kd.S_drew)); exact Kd.S_mono (Kd.S_far (p := ⟨gb319, 4, none⟩) (Kd.S_far (p := ⟨gb319, 3, none⟩) (Kd.S_far (p := ⟨gb319, 2, none⟩) (Kd.S_far (p := ⟨gb319, 1, none⟩) (Kd.S_far (p := ⟨gb319, 0, none⟩) (Kd.S_mono HO309.out (fun k_ hk => (⟨hk, hk.2⟩ : _ ∧ k_ ≠ gb319))) (fun _ hk => hk.2) (.int .i64 t311)) (fun _ hk => hk.2) (.int .i64 t312)) (fun _ hk => hk.2) (.int .i64 t313)) (fun _ hk => hk.2) (.string t314)) (fun _ hk => hk.2) (.slice Ao38 t315.length co38)) (fun _ hk => ⟨hk.1.1.1.1, ⟨hk.1.1.1.2.1, ⟨hk.1.1.2, ⟨hk.1.1.1.2.2, hk.1.2⟩⟩⟩⟩)))⟩; have n3_ : Aside0 (Kd.R (Kd.int .i64) 3 w39 w.heap.size (fun k_ => some k_ ≠ (.slice Ao21 t300.length co21 : Value).ownBlock) (.slice Ao38 t315.length co38) t315) := ⟨(by rw [hw]; exact (by (with_reducible repeat (first | apply Kd.R_alloc | apply Kd.R_drewN | apply Kd.R_drew)); exact Kd.R_mono (Kd.R_far (p := ⟨gb319, 4, none⟩) (Kd.R_far (p := ⟨gb319, 3, none⟩) (Kd.R_far (p := ⟨gb319, 2, none⟩) (Kd.R_far (p := ⟨gb319, 1, none⟩) (Kd.R_far (p := ⟨gb319, 0, none⟩) (Kd.R_types HO317.out BK319.out (by decide)) (fun _ hk => hk.2) (.int .i64 t311)) (fun _ hk => hk.2) (.int .i64 t312)) (fun _ hk => hk.2) (.int .i64 t313)) (fun _ hk => hk.2) (.string t314)) (fun _ hk => hk.2) (.slice Ao38 t315.length co38)) (fun _ hk => hk.1.2)))⟩; have n4_ : Aside0 (w39.heap[gb289]? = some (.cells #[.int .i64 a0_0, .int .i64 a0_1, .slice A0_2 l0_2.length c0_2] 24 (0, 0))) := ⟨(by rw [hw]; exact (by (with_reducible repeat (first | refine blk_drewN ?_ _ | refine blk_drew ?_ | refine blk_alloc ?_ _)); refine blk_far ?_ NB289_319.out _; (with_reducible repeat (first | refine blk_drewN ?_ _ | refine blk_drew ?_ | refine blk_alloc ?_ _)); refine blk_far ?_ NB289_319.out _; (with_reducible repeat (first | refine blk_drewN ?_ _ | refine blk_drew ?_ | refine blk_alloc ?_ _)); refine blk_far ?_ NB289_319.out _; (with_reducible repeat (first | refine blk_drewN ?_ _ | refine blk_drew ?_ | refine blk_alloc ?_ _)); refine blk_far ?_ NB289_319.out _; (with_reducible repeat (first | refine blk_drewN ?_ _ | refine blk_drew ?_ | refine blk_alloc ?_ _)); refine blk_far ?_ NB289_319.out _; (with_reducible repeat (first | refine blk_drewN ?_ _ | refine blk_drew ?_ | refine blk_alloc ?_ _)); exact BK289.out))⟩; have n5_ : Aside0 (w39.heap[gb304]? = some (.cells #[.int .i64 t296, .int .i64 t297, .int .i64 t298, .string t299, .slice Ao21 t300.length co21] 43 (0, 0))) := ⟨(by rw [hw]; exact (by (with_reducible repeat (first | refine blk_drewN ?_ _ | refine blk_drew ?_ | refine blk_alloc ?_ _)); refine blk_far ?_ NB304_319.out _; (with_reducible repeat (first | refine blk_drewN ?_ _ | refine blk_drew ?_ | refine blk_alloc ?_ _)); refine blk_far ?_ NB304_319.out _; (with_reducible repeat (first | refine blk_drewN ?_ _ | refine blk_drew ?_ | refine blk_alloc ?_ _)); refine blk_far ?_ NB304_319.out _; (with_reducible repeat (first | refine blk_drewN ?_ _ | refine blk_drew ?_ | refine blk_alloc ?_ _)); refine blk_far ?_ NB304_319.out _; (with_reducible repeat (first | refine blk_drewN ?_ _ | refine blk_drew ?_ | refine blk_alloc ?_ _)); refine blk_far ?_ NB304_319.out _; (with_reducible repeat (first | refine blk_drewN ?_ _ | refine blk_drew ?_ | refine blk_alloc ?_ _)); exact BK304.out))⟩; have n6_ : Aside0 (w39.heap[gb310]? = some (.cells #[.int .i64 t305, .int .i64 t306, .slice Ao29 t307.length co29] 29 (0, 0))) := ⟨(by rw [hw]; exact (by (with_reducible repeat (first | refine blk_drewN ?_ _ | refine blk_drew ?_ | refine blk_alloc ?_ _)); refine blk_far ?_ NB310_319.out _; (with_reducible repeat (first | refine blk_drewN ?_ _ | refine blk_drew ?_ | refine blk_alloc ?_ _)); refine blk_far ?_ NB310_319.out _; (with_reducible repeat (first | refine blk_drewN ?_ _ | refine blk_drew ?_ | refine blk_alloc ?_ _)); refine blk_far ?_ NB310_319.out _; (with_reducible repeat (first | refine blk_drewN ?_ _ | refine blk_drew ?_ | refine blk_alloc ?_ _)); refine blk_far ?_ NB310_319.out _; (with_reducible repeat (first | refine blk_drewN ?_ _ | refine blk_drew ?_ | refine blk_alloc ?_ _)); refine blk_far ?_ NB310_319.out _; (with_reducible repeat (first | refine blk_drewN ?_ _ | refine blk_drew ?_ | refine blk_alloc ?_ _)); exact BK310.out))⟩; have n7_ : Aside0 (w39.heap[gb319]? = some (.cells #[.int .i64 t311, .int .i64 t312, .int .i64 t313, .string t314, .slice Ao38 t315.length co38] 43 (0, 0))) := ⟨(by rw [hw]; exact (by (with_reducible repeat (first | refine blk_drewN ?_ _ | refine blk_drew ?_ | refine blk_alloc ?_ _)); refine blk_put (cs := #[.int .i64 t311, .int .i64 t312, .int .i64 t313, .string t314, .slice none 0 0]) ?_ 4 _ rfl; (with_reducible repeat (first | refine blk_drewN ?_ _ | refine blk_drew ?_ | refine blk_alloc ?_ _)); refine blk_put (cs := #[.int .i64 t311, .int .i64 t312, .int .i64 t313, .string (⟨#[]⟩ : ByteArray), .slice none 0 0]) ?_ 3 _ rfl; (with_reducible repeat (first | refine blk_drewN ?_ _ | refine blk_drew ?_ | refine blk_alloc ?_ _)); refine blk_put (cs := #[.int .i64 t311, .int .i64 t312, .int .i64 0, .string (⟨#[]⟩ : ByteArray), .slice none 0 0]) ?_ 2 _ rfl; (with_reducible repeat (first | refine blk_drewN ?_ _ | refine blk_drew ?_ | refine blk_alloc ?_ _)); refine blk_put (cs := #[.int .i64 t311, .int .i64 0, .int .i64 0, .string (⟨#[]⟩ : ByteArray), .slice none 0 0]) ?_ 1 _ rfl; (with_reducible repeat (first | refine blk_drewN ?_ _ | refine blk_drew ?_ | refine blk_alloc ?_ _)); refine blk_put (cs := #[.int .i64 0, .int .i64 0, .int .i64 0, .string (⟨#[]⟩ : ByteArray), .slice none 0 0]) ?_ 0 _ rfl; (with_reducible repeat (first | refine blk_drewN ?_ _ | refine blk_drew ?_ | refine blk_alloc ?_ _)); exact BK319.out))⟩; have n8_ : Aside0 (Below w.heap.size w w39) := ⟨(by rw [hw]; exact Xi)⟩; clear hw; clear HO295; clear HO302; clear HO309; clear HO317; clear BK289; clear BK304; clear BK310; clear BK319; clear HB; have HO295 := n0_; have HO302 := n1_; have HO309 := n2_; have HO317 := n3_; have BK289 := n4_; have BK304 := n5_; have BK310 := n6_; have BK319 := n7_; have HB := n8_; clear n0_ n1_ n2_ n3_ n4_ n5_ n6_ n7_ n8_))
  (try simp only [XW.q0, XW.q1, XW.q2])
  go_cut [44] (fun v44 wc => ∃ (kq : Nat) (x44_12 : Bool), v44 = .bool x44_12 ∧ Aside0 (laws_FnExactNodeAt.j0 kq a1 t303 t318 x44_12 a0_0 a0_1 l0_2 t296 t297 t298 t299 t300 t305 t306 t307 t311 t312 t313 t314 t315 = some true) ∧ Aside0 (kq ≤ k) ∧ Aside0 (Kd.R (Kd.int .i64) 3 wc w.heap.size (fun k_ => some k_ ≠ ((.slice Ao38 t315.length co38) : Value).ownBlock) (.slice Ao21 t300.length co21) t300) ∧ Aside0 (Kd.S k43 43 wc w.heap.size (fun k_ => some k_ ≠ ((.slice Ao21 t300.length co21) : Value).ownBlock ∧ some k_ ≠ ((.slice Ao38 t315.length co38) : Value).ownBlock ∧ k_ ≠ gb304 ∧ k_ ≠ gb319) (.slice Ao29 t307.length co29) t307) ∧ Aside0 (Kd.R (Kd.int .i64) 3 wc w.heap.size (fun k_ => some k_ ≠ ((.slice Ao21 t300.length co21) : Value).ownBlock) (.slice Ao38 t315.length co38) t315) ∧ Aside0 (wc.heap[gb289]? = some (.cells #[.int .i64 a0_0, .int .i64 a0_1, (.slice A0_2 l0_2.length c0_2)] 24 (0, 0))) ∧ Aside0 (wc.heap[gb304]? = some (.cells #[.int .i64 t296, .int .i64 t297, .int .i64 t298, .string t299, (.slice Ao21 t300.length co21)] 43 (0, 0))) ∧ Aside0 (wc.heap[gb310]? = some (.cells #[.int .i64 t305, .int .i64 t306, (.slice Ao29 t307.length co29)] 29 (0, 0))) ∧ Aside0 (wc.heap[gb319]? = some (.cells #[.int .i64 t311, .int .i64 t312, .int .i64 t313, .string t314, (.slice Ao38 t315.length co38)] 43 (0, 0))) ∧ Aside0 (Below w.heap.size w wc))
  case first =>
   have H := HC13.out
   clear HC13
   obtain ⟨t320, A40, H⟩ := Xbi H
   (try dsimp only at H)
   by_cases c41 : t320 = true
   ·subst c41
    (first | rw [if_pos rfl] at H | skip)
    have H' := Aside0.mk H
    clear H
    have hnb42 := NB319_289.out
    have hnc42 := NB289_319.out
    have hnb43 := NB319_304.out
    have hnc43 := NB304_319.out
    have hnb44 := NB319_310.out
    have hnc44 := NB310_319.out
    obtain ⟨hcz45_0, hcz45_1, hcz45_2, hcz45_3, hcz45_4⟩ := Xc5 BK319
    obtain ⟨hfz45_0, hfz45_1, hfz45_2, hfz45_3, hfz45_4⟩ := Xf5 BK319
    have hnb46 := NB304_289.out
    have hnc46 := NB289_304.out
    have hnb47 := NB304_310.out
    have hnc47 := NB310_304.out
    obtain ⟨hcz48_0, hcz48_1, hcz48_2, hcz48_3, hcz48_4⟩ := Xc5 BK304
    obtain ⟨hfz48_0, hfz48_1, hfz48_2, hfz48_3, hfz48_4⟩ := Xf5 BK304
    go_wp2_with (first | ((with_reducible refine gate_callee (f := 33) rfl ?_); refine Xgo 38 Try.func33 #[.agg #[.int .i64 t311, .int .i64 t312, .int .i64 t313, .string t314, .slice Ao38 t315.length co38], .agg #[.int .i64 t296, .int .i64 t297, .int .i64 t298, .string t299, .slice Ao21 t300.length co21]] ?_; (with_reducible refine (laws_eqNode.calls k t311 t312 t313 t314 _ _ t315 t296 t297 t298 t299 _ _ t300 true _ ?side1 ?side2 ?side3 ?side4 A40.out).mono ?_); (case side1 => repeat (first | exact (Kd.R_reads' HO317.out).2.2 | (with_reducible first | refine Kd.C_alloc ?_ _ | refine Kd.C_drewN ?_ _ | refine Kd.C_drew ?_))); (case side2 => exact (Kd.R_reads' HO317.out).2.1); (case side3 => repeat (first | exact (Kd.R_reads' HO302.out).2.2 | (with_reducible first | refine Kd.C_alloc ?_ _ | refine Kd.C_drewN ?_ _ | refine Kd.C_drew ?_))); (case side4 => exact (Kd.R_reads' HO302.out).2.1); rintro e w49 ⟨rfl, hb⟩; refine ⟨_, rfl, ?_⟩; replace HO295 := Aside0.mk (Kd.S_below (Xq HO295) hb); replace HO302 := Aside0.mk (Kd.R_below (Xq HO302) hb); replace HO309 := Aside0.mk (Kd.S_below (Xq HO309) hb); replace HO317 := Aside0.mk (Kd.R_below (Xq HO317) hb); replace BK289 := Xbb BK289 hb; replace BK304 := Xbb BK304 hb; replace BK310 := Xbb BK310 hb; replace BK319 := Xbb BK319 hb; replace HB := Aside0.mk (below_step Xi hb); clear hb))
    go_meet
    case rel => exact ⟨_, ((t318 != t303)), Xr, H', Xko, (Xp' HO302), ⟨by (with_reducible repeat (first | apply Kd.S_alloc | apply Kd.S_drewN | apply Kd.S_drew)); exact Kd.S_mono HO309.out (fun _ hk => ⟨hk.2.1, ⟨hk.2.2.1, ⟨hk.2.2.2.1, hk.2.2.2.2⟩⟩⟩)⟩, (Xp' HO317), BK289, BK304, BK310, BK319, ⟨Xi⟩⟩
   ·replace c41 := Bool.eq_false_iff.mpr c41
    subst c41
    (first | rw [if_neg (show ¬ (false = true) by decide)] at H | skip)
    have H' := Aside0.mk H
    clear H
    have hnb50 := NB319_289.out
    have hnc50 := NB289_319.out
    have hnb51 := NB319_304.out
    have hnc51 := NB304_319.out
    have hnb52 := NB319_310.out
    have hnc52 := NB310_319.out
    obtain ⟨hcz53_0, hcz53_1, hcz53_2, hcz53_3, hcz53_4⟩ := Xc5 BK319
    obtain ⟨hfz53_0, hfz53_1, hfz53_2, hfz53_3, hfz53_4⟩ := Xf5 BK319
    have hnb54 := NB304_289.out
    have hnc54 := NB289_304.out
    have hnb55 := NB304_310.out
    have hnc55 := NB310_304.out
    obtain ⟨hcz56_0, hcz56_1, hcz56_2, hcz56_3, hcz56_4⟩ := Xc5 BK304
    obtain ⟨hfz56_0, hfz56_1, hfz56_2, hfz56_3, hfz56_4⟩ := Xf5 BK304
    go_wp2_with (first | ((with_reducible refine gate_callee (f := 33) rfl ?_); refine Xgo 38 Try.func33 #[.agg #[.int .i64 t311, .int .i64 t312, .int .i64 t313, .string t314, .slice Ao38 t315.length co38], .agg #[.int .i64 t296, .int .i64 t297, .int .i64 t298, .string t299, .slice Ao21 t300.length co21]] ?_; (with_reducible refine (laws_eqNode.calls k t311 t312 t313 t314 _ _ t315 t296 t297 t298 t299 _ _ t300 false _ ?side1 ?side2 ?side3 ?side4 A40.out).mono ?_); (case side1 => repeat (first | exact (Kd.R_reads' HO317.out).2.2 | (with_reducible first | refine Kd.C_alloc ?_ _ | refine Kd.C_drewN ?_ _ | refine Kd.C_drew ?_))); (case side2 => exact (Kd.R_reads' HO317.out).2.1); (case side3 => repeat (first | exact (Kd.R_reads' HO302.out).2.2 | (with_reducible first | refine Kd.C_alloc ?_ _ | refine Kd.C_drewN ?_ _ | refine Kd.C_drew ?_))); (case side4 => exact (Kd.R_reads' HO302.out).2.1); rintro e w57 ⟨rfl, hb⟩; refine ⟨_, rfl, ?_⟩; replace HO295 := Aside0.mk (Kd.S_below (Xq HO295) hb); replace HO302 := Aside0.mk (Kd.R_below (Xq HO302) hb); replace HO309 := Aside0.mk (Kd.S_below (Xq HO309) hb); replace HO317 := Aside0.mk (Kd.R_below (Xq HO317) hb); replace BK289 := Xbb BK289 hb; replace BK304 := Xbb BK304 hb; replace BK310 := Xbb BK310 hb; replace BK319 := Xbb BK319 hb; replace HB := Aside0.mk (below_step Xi hb); clear hb))
    go_meet
    case rel => exact ⟨_, (true), Xr, H', Xko, (Xp' HO302), ⟨by (with_reducible repeat (first | apply Kd.S_alloc | apply Kd.S_drewN | apply Kd.S_drew)); exact Kd.S_mono HO309.out (fun _ hk => ⟨hk.2.1, ⟨hk.2.2.1, ⟨hk.2.2.2.1, hk.2.2.2.2⟩⟩⟩)⟩, (Xp' HO317), BK289, BK304, BK310, BK319, ⟨Xi⟩⟩
  case rest =>
   clear HC13
   (try clear c8); (try clear c8b0); (try clear hcz14_0); (try clear hcz14_1); (try clear hcz14_2); (try clear hcz20_0); (try clear hcz20_1); (try clear hcz20_2); (try clear hcz20_3); (try clear hcz20_4); (try clear hcz23_0); (try clear hcz23_1); (try clear hcz23_2); (try clear hcz28_0); (try clear hcz28_1); (try clear hcz28_2); (try clear hcz31_0); (try clear hcz31_1); (try clear hcz31_2); (try clear hcz37_0); (try clear hcz37_1); (try clear hcz37_2); (try clear hcz37_3); (try clear hcz37_4); (try clear hcz6_0); (try clear hcz6_1); (try clear hcz6_2); (try clear hfz14_0); (try clear hfz14_1); (try clear hfz14_2); (try clear hfz20_0); (try clear hfz20_1); (try clear hfz20_2); (try clear hfz20_3); (try clear hfz20_4); (try clear hfz23_0); (try clear hfz23_1); (try clear hfz23_2); (try clear hfz28_0); (try clear hfz28_1); (try clear hfz28_2); (try clear hfz31_0); (try clear hfz31_1); (try clear hfz31_2); (try clear hfz37_0); (try clear hfz37_1); (try clear hfz37_2); (try clear hfz37_3); (try clear hfz37_4); (try clear hfz6_0); (try clear hfz6_1); (try clear hfz6_2)
   obtain ⟨kq, x44_12, rfl, HA, HJ12, HO_305004, HO_311002, HO_320004, BK289, BK304, BK310, BK319, HB⟩ := hcut
   cases kq with
   | zero => cases HA.out
   | succ kj12 =>
    have H := HA.out
    clear HA
    simp only [laws_FnExactNodeAt.j0] at H
    by_cases c58 : x44_12 = true
    ·subst c58
     (first | rw [if_pos rfl] at H | skip)
     cases H
    ·replace c58 := Bool.eq_false_iff.mpr c58
     subst c58
     (first | rw [if_neg (show ¬ (false = true) by decide)] at H | skip)
     replace H := Option.bind_eq_some_iff.mp H
     obtain ⟨⟨t321, t322, t323⟩, A590, H⟩ := H
     (try dsimp only at H)
     have A59 := Aside0.mk A590
     clear A590
     obtain ⟨t326, A60, H⟩ := Xbi H
     (try dsimp only at H)
     have HC61 := Aside0.mk H
     clear H
     try go_wp2_with (fail)
     replace HO_305004 := Aside0.mk (Kd.R_drew HO_305004.out)
     replace HO_311002 := Aside0.mk (Kd.S_drew HO_311002.out)
     replace HO_320004 := Aside0.mk (Kd.R_drew HO_320004.out)
     replace BK289 := Aside0.mk (blk_drew BK289.out)
     replace BK304 := Aside0.mk (blk_drew BK304.out)
     replace BK310 := Aside0.mk (blk_drew BK310.out)
     replace BK319 := Aside0.mk (blk_drew BK319.out)
     replace HB := Aside0.mk (below_drew1 HB.out)
     refine start_ (n := 5) (S := fun w' => w'.cell? ⟨gb310, 0, none⟩ = some (.int .i64 t305) ∧ w'.cell? ⟨gb310, 1, none⟩ = some (.int .i64 t306) ∧ w'.cell? ⟨gb310, 2, none⟩ = some (.slice Ao29 t307.length co29) ∧ w'.cell? ⟨gb289, 0, none⟩ = some (.int .i64 a0_0) ∧ w'.cell? ⟨gb289, 1, none⟩ = some (.int .i64 a0_1) ∧ w'.cell? ⟨gb289, 2, none⟩ = some (.slice A0_2 l0_2.length c0_2)) (ds := []) #[false, false, false, false, false] (by kernel_rfl) rfl rfl ⟨(blk_cell BK310.out 0).trans rfl, (blk_cell BK310.out 1).trans rfl, (blk_cell BK310.out 2).trans rfl, (blk_cell BK289.out 0).trans rfl, (blk_cell BK289.out 1).trans rfl, (blk_cell BK289.out 2).trans rfl⟩ (fun hHeld => ?_)
     generalize wc.drew = w62 at HO_305004 HO_311002 HO_320004 BK289 BK304 BK310 BK319 HB hHeld ⊢
     refine take_ (i := 0) (N := some 45) (v := ?_) (a' := ?_) #[true, false, false, false, false] rfl rfl (by kernel_rfl) (fun _ _ _ h => h) (Or.inl ⟨by rfl, ?_⟩) hHeld ?_ ?_
     rotate_left
     ·rintro w' ⟨s0, s1, s2, s3, s4, s5⟩
      go_simp
      with_reducible rfl
     rotate_left
     ·simp only [XW.q0, XW.q1, XW.q2, i64_w, i32_w]
      rfl
     refine take_ (i := 1) (N := some 46) (v := ?_) (a' := ?_) #[true, true, false, false, false] rfl rfl (by kernel_rfl) (fun _ _ _ h => h) (Or.inl ⟨by rfl, ?_⟩) hHeld ?_ ?_
     rotate_left
     ·rintro w' ⟨s0, s1, s2, s3, s4, s5⟩
      go_simp
      with_reducible rfl
     rotate_left
     ·simp only [XW.q0, XW.q1, XW.q2, i64_w, i32_w]
      rfl
     refine one_ (i := 2) (N := some 47) #[true, true, true, false, false] rfl rfl (by kernel_rfl) (by decide) (fun K hK => ?_)
     refine goes_ Try.func15 (by kernel_rfl) rfl #[.agg #[.int .i64 a0_0, .int .i64 a0_1, .slice A0_2 l0_2.length c0_2]] (by rfl) rfl rfl (by (try simp only [List.map_toArray, List.map_cons, List.map_nil]); first | done | rfl | (simp only [List.length_drop, List.length_take]; rfl)) ?_
     with_reducible refine (laws_toDoc.calls kj12 a0_0 a0_1 _ _ l0_2 t321 t322 t323 _ ?side1 ?side2 A59.out).mono ?_
     (case side1 => exact Xc HR0_2)
     (case side2 => exact HC0_2.out)
     rintro e w63 ⟨v324, rfl, ho0, hb⟩
     refine ⟨_, rfl, ?_⟩
     have HO325 := Aside0.mk (Kd.S_lower (Kd.S_newB (Kd.S_newB (Kd.S_new' (Kd.S_new' (Kd.S_new' ho0 (Kd.R_lt (Xq HO_305004))) (Kd.S_lt (Xq HO_311002))) (Kd.R_lt (Xq HO_320004))) (g := gb304) (o := .cells #[.int .i64 t296, .int .i64 t297, .int .i64 t298, .string t299, .slice Ao21 t300.length co21] 43 (0, 0)) BK304.out) (g := gb319) (o := .cells #[.int .i64 t311, .int .i64 t312, .int .i64 t313, .string t314, .slice Ao38 t315.length co38] 43 (0, 0)) BK319.out) (below_size Xi))
     replace HO_305004 := Aside0.mk (Kd.R_below (Xq HO_305004) hb)
     replace HO_311002 := Aside0.mk (Kd.S_elder' (Xq HO_311002) (Kd.S_base ho0) hb)
     replace HO_320004 := Aside0.mk (Kd.R_below (Xq HO_320004) hb)
     replace BK289 := Xbb BK289 hb
     replace BK304 := Xbb BK304 hb
     replace BK310 := Xbb BK310 hb
     replace BK319 := Xbb BK319 hb
     replace HB := Aside0.mk (below_step Xi hb)
     (try clear hb)
     (try clear hb2)
     (try clear hk)
     (try clear hi)
     (try clear ho0)
     obtain ⟨Ao64, co64, eo64⟩ := Kd.S_slice HO325.out
     (first | subst eo64 | (injection eo64 with f1_ f2_ f3_; have f4_ := f1_.symm; have f5_ := f3_.symm; clear f1_ f2_ f3_; subst f4_; subst f5_))
     refine hK.out _ _ ⟨(blk_cell BK310.out 0).trans rfl, (blk_cell BK310.out 1).trans rfl, (blk_cell BK310.out 2).trans rfl, (blk_cell BK289.out 0).trans rfl, (blk_cell BK289.out 1).trans rfl, (blk_cell BK289.out 2).trans rfl⟩ (fun hHeld => ?_)
     clear hK K
     refine Xno ?_
     refine one_ (i := 3) (N := some 48) #[true, true, true, true, false] rfl rfl (by kernel_rfl) (by decide) (fun K hK => ?_)
     refine goes_ Try.func17 (by kernel_rfl) rfl #[.agg #[.int .i64 t305, .int .i64 t306, .slice Ao29 t307.length co29], .agg #[.int .i64 t321, .int .i64 t322, .slice Ao64 t323.length co64]] (by rfl) rfl rfl (by (try simp only [List.map_toArray, List.map_cons, List.map_nil]); first | done | rfl | (simp only [List.length_drop, List.length_take]; rfl)) ?_
     with_reducible refine (laws_eqDoc.calls kj12 t305 t306 _ _ t307 t321 t322 _ _ t323 t326 _ ?side1 ?side2 ?side3 ?side4 A60.out).mono ?_
     (case side1 => repeat (first | exact (Kd.S_reads' HO_311002.out).2.2 | (with_reducible first | refine Kd.C_alloc ?_ _ | refine Kd.C_drewN ?_ _ | refine Kd.C_drew ?_)))
     (case side2 => exact (Kd.S_reads' HO_311002.out).2.1)
     (case side3 => repeat (first | exact (Kd.S_reads' HO325.out).2.2 | (with_reducible first | refine Kd.C_alloc ?_ _ | refine Kd.C_drewN ?_ _ | refine Kd.C_drew ?_)))
     (case side4 => exact (Kd.S_reads' HO325.out).2.1)
     rintro e w65 ⟨rfl, hb⟩
     refine ⟨_, rfl, ?_⟩
     replace HO_305004 := Aside0.mk (Kd.R_below (Xq HO_305004) hb)
     replace HO_311002 := Aside0.mk (Kd.S_below (Xq HO_311002) hb)
     replace HO_320004 := Aside0.mk (Kd.R_below (Xq HO_320004) hb)
     replace HO325 := Aside0.mk (Kd.S_below (Xq HO325) hb)
     replace BK289 := Xbb BK289 hb
     replace BK304 := Xbb BK304 hb
     replace BK310 := Xbb BK310 hb
     replace BK319 := Xbb BK319 hb
     replace HB := Aside0.mk (below_step Xi hb)
     (try clear hb)
     (try clear hb2)
     (try clear hk)
     (try clear hi)
     refine hK.out _ _ ⟨(blk_cell BK310.out 0).trans rfl, (blk_cell BK310.out 1).trans rfl, (blk_cell BK310.out 2).trans rfl, (blk_cell BK289.out 0).trans rfl, (blk_cell BK289.out 1).trans rfl, (blk_cell BK289.out 2).trans rfl⟩ (fun hHeld => ?_)
     clear hK K
     refine Xno ?_
     refine pure_ (i := 4) (N := some 49) (v := ?_) (a' := ?_) #[true, true, true, true, true] rfl rfl (by kernel_rfl) (fun _ _ _ h => h) (Or.inl ⟨by rfl, ?_⟩) ?_ ?_
     rotate_left
     ·intro w'
      go_simp
      with_reducible rfl
     rotate_left
     ·simp only [XW.q0, XW.q1, XW.q2, i64_w, i32_w]
      rfl
     refine done_ (by kernel_rfl) ?_
     go_upto_if 49 with (fail)
     have H := HC61.out
     clear HC61
     by_cases c66 : t326 = true
     ·subst c66
      (first | rw [if_pos rfl] at H | skip)
      replace H := Option.bind_eq_some_iff.mp H
      obtain ⟨⟨t327, t328⟩, A670, H⟩ := H
      (try dsimp only at H)
      have A67 := Aside0.mk A670
      clear A670
      have HC68 := Aside0.mk H
      clear H
      have hnb69 := NB310_289.out
      have hnc69 := NB289_310.out
      have hnb70 := NB310_304.out
      have hnc70 := NB304_310.out
      have hnb71 := NB310_319.out
      have hnc71 := NB319_310.out
      obtain ⟨hcz72_0, hcz72_1, hcz72_2⟩ := Xc3 BK310
      obtain ⟨hfz72_0, hfz72_1, hfz72_2⟩ := Xf3 BK310
      go_upto_region 14 with (first | ((with_reducible refine gate_callee (f := 29) rfl ?_); refine Xgo 52 Try.func29 #[.agg #[.int .i64 t305, .int .i64 t306, .slice Ao29 t307.length co29], .int .i64 1] ?_; (with_reducible refine (laws_markDoc.calls kj12 t305 t306 (fun k_ => ((((some k_ ≠ (.slice Ao21 t300.length co21 : Value).ownBlock ∧ (some k_ ≠ (.slice Ao38 t315.length co38 : Value).ownBlock ∧ (k_ ≠ gb304 ∧ k_ ≠ gb319))) ∧ some k_ ≠ (.slice Ao64 t323.length co64 : Value).ownBlock) ∧ k_ ≠ gb289) ∧ k_ ≠ gb310)) (.slice Ao29 t307.length co29) t307 1 t327 t328 w _ ?side1 ?side2 A67.out).mono ?_); (case side1 => exact Xi); (case side2 => (with_reducible repeat (first | apply Kd.S_alloc | apply Kd.S_drewN | apply Kd.S_drew)); exact (Kd.S_types (Kd.S_types HO_311002.out BK289.out (by decide)) BK310.out (by decide))); rintro e w73 ⟨rfl, hy0, hb, hkp⟩; refine ⟨_, rfl, ?_⟩; replace HO_305004 := Aside0.mk (Kd.R_mono (ok' := fun k_ => some k_ ≠ (.slice Ao38 t315.length co38 : Value).ownBlock) (XR.R_keptT rfl HO_305004.out hkp (fun k_ hk_ hs_ => (hs_.1.1.1.1) hk_.1)) (fun k_ hk_ => hk_.1)); replace HO_311002 := Aside0.mk (hy0); replace HO_320004 := Aside0.mk (Kd.R_mono (ok' := fun k_ => some k_ ≠ (.slice Ao21 t300.length co21 : Value).ownBlock) (XR.R_keptT rfl HO_320004.out hkp (fun k_ hk_ hs_ => (hs_.1.1.1.2.1) hk_.1)) (fun k_ hk_ => hk_.1)); replace BK289 := Aside0.mk (blk_kept BK289.out hkp (fun hs_ => (hs_.1.2) rfl)); replace BK304 := Aside0.mk (blk_kept BK304.out hkp (fun hs_ => (hs_.1.1.1.2.2.1) rfl)); replace BK310 := Aside0.mk (blk_kept BK310.out hkp (fun hs_ => (hs_.2) rfl)); replace BK319 := Aside0.mk (blk_kept BK319.out hkp (fun hs_ => (hs_.1.1.1.2.2.2) rfl)); replace HB := Aside0.mk (hb); clear HO325; (try clear hb); (try clear hkp); (try clear hy0)))
      (try simp only [XW.q0, XW.q1, XW.q2])
      go_cut [65] (fun v65 wc => ∃ (kq : Nat) (x65_67 : Bool), v65 = .bool x65_67 ∧ Aside0 (laws_FnExactNodeAt.j1 kq a1 t303 x65_67 a0_0 a0_1 l0_2 t296 t297 t298 t299 t300 t311 t312 t313 t314 t315 = some true) ∧ Aside0 (kq ≤ kj12) ∧ Aside0 (Kd.R (Kd.int .i64) 3 wc w.heap.size (fun k_ => some k_ ≠ ((.slice Ao38 t315.length co38) : Value).ownBlock) (.slice Ao21 t300.length co21) t300) ∧ Aside0 (Kd.S k43 43 wc w.heap.size (fun k_ => some k_ ≠ ((.slice Ao21 t300.length co21) : Value).ownBlock ∧ some k_ ≠ ((.slice Ao38 t315.length co38) : Value).ownBlock ∧ k_ ≠ gb304 ∧ k_ ≠ gb319) (.slice Ao29 t307.length co29) t328) ∧ Aside0 (Kd.R (Kd.int .i64) 3 wc w.heap.size (fun k_ => some k_ ≠ ((.slice Ao21 t300.length co21) : Value).ownBlock) (.slice Ao38 t315.length co38) t315) ∧ Aside0 (wc.heap[gb289]? = some (.cells #[.int .i64 a0_0, .int .i64 a0_1, (.slice A0_2 l0_2.length c0_2)] 24 (0, 0))) ∧ Aside0 (wc.heap[gb304]? = some (.cells #[.int .i64 t296, .int .i64 t297, .int .i64 t298, .string t299, (.slice Ao21 t300.length co21)] 43 (0, 0))) ∧ Aside0 (wc.heap[gb310]? = some (.cells #[.int .i64 t305, .int .i64 t306, (.slice Ao29 t307.length co29)] 29 (0, 0))) ∧ Aside0 (wc.heap[gb319]? = some (.cells #[.int .i64 t311, .int .i64 t312, .int .i64 t313, .string t314, (.slice Ao38 t315.length co38)] 43 (0, 0))) ∧ Aside0 (Below w.heap.size w wc))
      case first =>
       have H := HC68.out
       clear HC68
       obtain ⟨c74b0, H⟩ | ⟨c74b0, H⟩ := Xit H
       ·(first | rw [c74b0] | (simp only [i64_w, i32_w]; rw [c74b0]) | skip)
        have H' := Aside0.mk H
        clear H
        go_wp2
        go_meet
        case rel => exact ⟨_, (true), Xr, H', ⟨by have := HJ12.out; first | omega | exact Nat.le_refl _⟩, (Xp' HO_305004), ⟨by (with_reducible repeat (first | apply Kd.S_alloc | apply Kd.S_drewN | apply Kd.S_drew)); exact Kd.S_mono HO_311002.out (fun _ hk => ⟨hk.1.1.1.1, ⟨hk.1.1.1.2.1, ⟨hk.1.1.1.2.2.1, hk.1.1.1.2.2.2⟩⟩⟩)⟩, (Xp' HO_320004), BK289, BK304, BK310, BK319, ⟨Xi⟩⟩
       ·(first | rw [c74b0] | (simp only [i64_w, i32_w]; rw [c74b0]) | skip)
        obtain ⟨t329, A75, H⟩ := Xbi H
        (try dsimp only at H)
        by_cases c76 : t329 = true
        ·subst c76
         (first | rw [if_pos rfl] at H | skip)
         have H' := Aside0.mk H
         clear H
         have hnb77 := NB319_289.out
         have hnc77 := NB289_319.out
         have hnb78 := NB319_304.out
         have hnc78 := NB304_319.out
         have hnb79 := NB319_310.out
         have hnc79 := NB310_319.out
         obtain ⟨hcz80_0, hcz80_1, hcz80_2, hcz80_3, hcz80_4⟩ := Xc5 BK319
         obtain ⟨hfz80_0, hfz80_1, hfz80_2, hfz80_3, hfz80_4⟩ := Xf5 BK319
         have hnb81 := NB304_289.out
         have hnc81 := NB289_304.out
         have hnb82 := NB304_310.out
         have hnc82 := NB310_304.out
         obtain ⟨hcz83_0, hcz83_1, hcz83_2, hcz83_3, hcz83_4⟩ := Xc5 BK304
         obtain ⟨hfz83_0, hfz83_1, hfz83_2, hfz83_3, hfz83_4⟩ := Xf5 BK304
         go_wp2_with (first | (go_at_call 33; (with_reducible refine (laws_eqNode.calls kj12 t311 t312 t313 t314 _ _ t315 t296 t297 t298 t299 _ _ t300 true _ ?side1 ?side2 ?side3 ?side4 A75.out).mono ?_); (case side1 => repeat (first | exact (Kd.R_reads' HO_320004.out).2.2 | (with_reducible first | refine Kd.C_alloc ?_ _ | refine Kd.C_drewN ?_ _ | refine Kd.C_drew ?_))); (case side2 => exact (Kd.R_reads' HO_320004.out).2.1); (case side3 => repeat (first | exact (Kd.R_reads' HO_305004.out).2.2 | (with_reducible first | refine Kd.C_alloc ?_ _ | refine Kd.C_drewN ?_ _ | refine Kd.C_drew ?_))); (case side4 => exact (Kd.R_reads' HO_305004.out).2.1); rintro e w84 ⟨rfl, hb⟩; replace HO_305004 := Aside0.mk (Kd.R_below (Xq HO_305004) hb); replace HO_311002 := Aside0.mk (Kd.S_below (Xq HO_311002) hb); replace HO_320004 := Aside0.mk (Kd.R_below (Xq HO_320004) hb); replace BK289 := Xbb BK289 hb; replace BK304 := Xbb BK304 hb; replace BK310 := Xbb BK310 hb; replace BK319 := Xbb BK319 hb; replace HB := Aside0.mk (below_step Xi hb); clear hb))
         go_meet
         case rel => exact ⟨_, ((t318 != t303)), Xr, H', ⟨by have := HJ12.out; first | omega | exact Nat.le_refl _⟩, (Xp' HO_305004), ⟨by (with_reducible repeat (first | apply Kd.S_alloc | apply Kd.S_drewN | apply Kd.S_drew)); exact Kd.S_mono HO_311002.out (fun _ hk => ⟨hk.1.1.1.1, ⟨hk.1.1.1.2.1, ⟨hk.1.1.1.2.2.1, hk.1.1.1.2.2.2⟩⟩⟩)⟩, (Xp' HO_320004), BK289, BK304, BK310, BK319, ⟨Xi⟩⟩
        ·replace c76 := Bool.eq_false_iff.mpr c76
         subst c76
         (first | rw [if_neg (show ¬ (false = true) by decide)] at H | skip)
         have H' := Aside0.mk H
         clear H
         have hnb85 := NB319_289.out
         have hnc85 := NB289_319.out
         have hnb86 := NB319_304.out
         have hnc86 := NB304_319.out
         have hnb87 := NB319_310.out
         have hnc87 := NB310_319.out
         obtain ⟨hcz88_0, hcz88_1, hcz88_2, hcz88_3, hcz88_4⟩ := Xc5 BK319
         obtain ⟨hfz88_0, hfz88_1, hfz88_2, hfz88_3, hfz88_4⟩ := Xf5 BK319
         have hnb89 := NB304_289.out
         have hnc89 := NB289_304.out
         have hnb90 := NB304_310.out
         have hnc90 := NB310_304.out
         obtain ⟨hcz91_0, hcz91_1, hcz91_2, hcz91_3, hcz91_4⟩ := Xc5 BK304
         obtain ⟨hfz91_0, hfz91_1, hfz91_2, hfz91_3, hfz91_4⟩ := Xf5 BK304
         go_wp2_with (first | (go_at_call 33; (with_reducible refine (laws_eqNode.calls kj12 t311 t312 t313 t314 _ _ t315 t296 t297 t298 t299 _ _ t300 false _ ?side1 ?side2 ?side3 ?side4 A75.out).mono ?_); (case side1 => repeat (first | exact (Kd.R_reads' HO_320004.out).2.2 | (with_reducible first | refine Kd.C_alloc ?_ _ | refine Kd.C_drewN ?_ _ | refine Kd.C_drew ?_))); (case side2 => exact (Kd.R_reads' HO_320004.out).2.1); (case side3 => repeat (first | exact (Kd.R_reads' HO_305004.out).2.2 | (with_reducible first | refine Kd.C_alloc ?_ _ | refine Kd.C_drewN ?_ _ | refine Kd.C_drew ?_))); (case side4 => exact (Kd.R_reads' HO_305004.out).2.1); rintro e w92 ⟨rfl, hb⟩; replace HO_305004 := Aside0.mk (Kd.R_below (Xq HO_305004) hb); replace HO_311002 := Aside0.mk (Kd.S_below (Xq HO_311002) hb); replace HO_320004 := Aside0.mk (Kd.R_below (Xq HO_320004) hb); replace BK289 := Xbb BK289 hb; replace BK304 := Xbb BK304 hb; replace BK310 := Xbb BK310 hb; replace BK319 := Xbb BK319 hb; replace HB := Aside0.mk (below_step Xi hb); clear hb))
         go_meet
         case rel => exact ⟨_, (true), Xr, H', ⟨by have := HJ12.out; first | omega | exact Nat.le_refl _⟩, (Xp' HO_305004), ⟨by (with_reducible repeat (first | apply Kd.S_alloc | apply Kd.S_drewN | apply Kd.S_drew)); exact Kd.S_mono HO_311002.out (fun _ hk => ⟨hk.1.1.1.1, ⟨hk.1.1.1.2.1, ⟨hk.1.1.1.2.2.1, hk.1.1.1.2.2.2⟩⟩⟩)⟩, (Xp' HO_320004), BK289, BK304, BK310, BK319, ⟨Xi⟩⟩
      case rest =>
       clear HC68
       (try clear c8); (try clear c8b0); (try clear c58); (try clear c66); (try clear hcz14_0); (try clear hcz14_1); (try clear hcz14_2); (try clear hcz20_0); (try clear hcz20_1); (try clear hcz20_2); (try clear hcz20_3); (try clear hcz20_4); (try clear hcz23_0); (try clear hcz23_1); (try clear hcz23_2); (try clear hcz28_0); (try clear hcz28_1); (try clear hcz28_2); (try clear hcz31_0); (try clear hcz31_1); (try clear hcz31_2); (try clear hcz37_0); (try clear hcz37_1); (try clear hcz37_2); (try clear hcz37_3); (try clear hcz37_4); (try clear hcz6_0); (try clear hcz6_1); (try clear hcz6_2); (try clear hcz72_0); (try clear hcz72_1); (try clear hcz72_2); (try clear hfz14_0); (try clear hfz14_1); (try clear hfz14_2); (try clear hfz20_0); (try clear hfz20_1); (try clear hfz20_2); (try clear hfz20_3); (try clear hfz20_4); (try clear hfz23_0); (try clear hfz23_1); (try clear hfz23_2); (try clear hfz28_0); (try clear hfz28_1); (try clear hfz28_2); (try clear hfz31_0); (try clear hfz31_1); (try clear hfz31_2); (try clear hfz37_0); (try clear hfz37_1); (try clear hfz37_2); (try clear hfz37_3); (try clear hfz37_4); (try clear hfz6_0); (try clear hfz6_1); (try clear hfz6_2); (try clear hfz72_0); (try clear hfz72_1); (try clear hfz72_2)
       obtain ⟨kq, x65_67, rfl, HA, HJ67, HO_305004, HO_311002, HO_320004, BK289, BK304, BK310, BK319, HB⟩ := hcut
       have hl311002_67 := (Kd.S_reads' HO_311002.out).1
       rw [hl311002_67] at HO_311002
       (try simp only [hl311002_67])
       (try simp only [hl311002_67] at BK289)
       (try simp only [hl311002_67] at BK304)
       (try simp only [hl311002_67] at BK310)
       (try simp only [hl311002_67] at BK319)
       (try simp only [hl311002_67] at HO_305004)
       (try simp only [hl311002_67] at HO_320004)
       cases kq with
       | zero => cases HA.out
       | succ kj67 =>
        have H := HA.out
        clear HA
        simp only [laws_FnExactNodeAt.j1] at H
        by_cases c93 : x65_67 = true
        ·subst c93
         (first | rw [if_pos rfl] at H | skip)
         cases H
        ·replace c93 := Bool.eq_false_iff.mpr c93
         subst c93
         (first | rw [if_neg (show ¬ (false = true) by decide)] at H | skip)
         replace H := Option.bind_eq_some_iff.mp H
         obtain ⟨⟨t330, t331⟩, A940, H⟩ := H
         (try dsimp only at H)
         have A94 := Aside0.mk A940
         clear A940
         obtain ⟨t332, A95, H⟩ := Xbi H
         (try dsimp only at H)
         have HC96 := Aside0.mk H
         clear H
         have hnb97 := NB319_289.out
         have hnc97 := NB289_319.out
         have hnb98 := NB319_304.out
         have hnc98 := NB304_319.out
         have hnb99 := NB319_310.out
         have hnc99 := NB310_319.out
         obtain ⟨hcz100_0, hcz100_1, hcz100_2, hcz100_3, hcz100_4⟩ := Xc5 BK319
         obtain ⟨hfz100_0, hfz100_1, hfz100_2, hfz100_3, hfz100_4⟩ := Xf5 BK319
         go_upto_if 73 with (first | ((with_reducible refine gate_callee (f := 34) rfl ?_); refine Xgo 68 Try.func34 #[.agg #[.int .i64 t311, .int .i64 t312, .int .i64 t313, .string t314, .slice Ao38 t315.length co38], .int .i64 1] ?_; (with_reducible refine (laws_markNode.calls kj67 t311 t312 t313 t314 (fun k_ => some k_ = (.slice Ao38 t315.length co38 : Value).ownBlock) (.slice Ao38 t315.length co38) t315 1 t330 t331 w _ ?side1 ?side2 A94.out).mono ?_); (case side1 => exact Xi); (case side2 => exact Kd.R_tight rfl HO_320004.out); rintro e w101 ⟨rfl, hy0, hb, hkp⟩; refine ⟨_, rfl, ?_⟩; replace HO_305004 := Aside0.mk (Kd.R_mono (ok' := fun k_ => some k_ ≠ (.slice Ao38 t315.length co38 : Value).ownBlock) (Kd.R_keptB (HO_305004.out) hkp (fun k_ hk_ hs_ => (hk_) hs_)) (fun k_ hk_ => hk_.1)); replace HO_311002 := Aside0.mk (Kd.S_mono (ok' := fun k_ => some k_ ≠ (.slice Ao21 t300.length co21 : Value).ownBlock ∧ some k_ ≠ (.slice Ao38 t315.length co38 : Value).ownBlock ∧ k_ ≠ gb304 ∧ k_ ≠ gb319) (Kd.S_keptB (HO_311002.out) hkp (fun k_ hk_ hs_ => (hk_.2.1) hs_)) (fun k_ hk_ => ⟨hk_.1.1, hk_.1.2.1, hk_.1.2.2.1, hk_.1.2.2.2⟩)); replace BK289 := Aside0.mk (blk_kept BK289.out hkp (fun hs_ => (fun e_ => (Kd.R_ne HO_320004.out BK289.out (by decide)) e_) hs_)); replace BK304 := Aside0.mk (blk_kept BK304.out hkp (fun hs_ => (fun e_ => (Kd.R_ne HO_320004.out BK304.out (by decide)) e_) hs_)); replace BK310 := Aside0.mk (blk_kept BK310.out hkp (fun hs_ => (fun e_ => (Kd.R_ne HO_320004.out BK310.out (by decide)) e_) hs_)); replace BK319 := Aside0.mk (blk_kept BK319.out hkp (fun hs_ => (fun e_ => (Kd.R_ne HO_320004.out BK319.out (by decide)) e_) hs_)); replace HO_320004 := Aside0.mk (Kd.R_reok rfl hy0 (fun k_ e_ => HO_320004.out.1 k_ e_)); replace HB := Aside0.mk (hb); (try clear hb); (try clear hkp); (try clear hy0); obtain ⟨hcz102_0, hcz102_1, hcz102_2, hcz102_3, hcz102_4⟩ := Xc5 BK319; obtain ⟨hfz102_0, hfz102_1, hfz102_2, hfz102_3, hfz102_4⟩ := Xf5 BK319) | ((with_reducible refine gate_callee (f := 35) rfl ?_); refine goesL_ (some 71) rfl rfl Try.func35 (by kernel_rfl) rfl #[.agg #[.int .i64 t311, .int .i64 t312, .int .i64 t313, .string t314, .slice Ao38 t331.length co38], .int .i64 1] rfl (by (try simp only [List.map_toArray, List.map_cons, List.map_nil]); first | done | (rw [show t331.length = t315.length from (Kd.R_reads' HO_320004.out).1.symm] <;> rfl) | rfl | (simp only [List.length_drop, List.length_take]; rfl)) ?_; (with_reducible refine (laws_heldNode.calls kj67 t311 t312 t313 t314 _ _ t331 1 t332 _ ?side1 ?side2 A95.out).mono ?_); (case side1 => repeat (first | exact (Kd.R_reads' HO_320004.out).2.2 | (with_reducible first | refine Kd.C_alloc ?_ _ | refine Kd.C_drewN ?_ _ | refine Kd.C_drew ?_))); (case side2 => rw [show t331.length = t315.length from (Kd.R_reads' HO_320004.out).1.symm]; exact (Kd.R_reads' HO_320004.out).2.1); rintro e w103 ⟨rfl, hb⟩; refine ⟨_, rfl, ?_⟩; replace HO_305004 := Aside0.mk (Kd.R_below (Xq HO_305004) hb); replace HO_311002 := Aside0.mk (Kd.S_below (Xq HO_311002) hb); replace HO_320004 := Aside0.mk (Kd.R_below (Xq HO_320004) hb); replace BK289 := Xbb BK289 hb; replace BK304 := Xbb BK304 hb; replace BK310 := Xbb BK310 hb; replace BK319 := Xbb BK319 hb; replace HB := Aside0.mk (below_step Xi hb); clear hb))
         have H := HC96.out
         clear HC96
         obtain ⟨c104b0, H⟩ | ⟨c104b0, H⟩ := Xit H
         ·(first | rw [c104b0] | (simp only [i64_w, i32_w]; rw [c104b0]) | skip)
          cases H
         ·(first | rw [c104b0] | (simp only [i64_w, i32_w]; rw [c104b0]) | skip)
          obtain ⟨c105, H⟩ | ⟨c105, H⟩ := Xiu H
          ·have c105b0 : (t332 == t330) = true := beq_iff_eq.mpr c105
           have c105b1 : (t332 != t330) = false := bne_eq_false_iff_eq.mpr c105
           clear c105
           replace H := Option.bind_eq_some_iff.mp H
           obtain ⟨⟨t333, t334, t335⟩, A1060, H⟩ := H
           (try dsimp only at H)
           have A106 := Aside0.mk A1060
           clear A1060
           replace H := Option.bind_eq_some_iff.mp H
           obtain ⟨⟨t338, t339, t340, t341, t342, t345⟩, A1070, H⟩ := H
           (try dsimp only at H)
           have A107 := Aside0.mk A1070
           clear A1070
           have HC108 := Aside0.mk H
           clear H
           have hnb109 := NB289_304.out
           have hnc109 := NB304_289.out
           have hnb110 := NB289_310.out
           have hnc110 := NB310_289.out
           have hnb111 := NB289_319.out
           have hnc111 := NB319_289.out
           obtain ⟨hcz112_0, hcz112_1, hcz112_2⟩ := Xc3 BK289
           obtain ⟨hfz112_0, hfz112_1, hfz112_2⟩ := Xf3 BK289
           go_upto_region 25 with (first | ((with_reducible refine gate_callee (f := 15) rfl ?_); refine Xgo 79 Try.func15 #[.agg #[.int .i64 a0_0, .int .i64 a0_1, .slice A0_2 l0_2.length c0_2]] ?_; (with_reducible refine (laws_toDoc.calls kj67 a0_0 a0_1 _ _ l0_2 t333 t334 t335 _ ?side1 ?side2 A106.out).mono ?_); (case side1 => exact Xc HR0_2); (case side2 => exact HC0_2.out); rintro e w113 ⟨v336, rfl, ho0, hb⟩; refine ⟨_, rfl, ?_⟩; have HO337 := Aside0.mk (Kd.S_lower (Kd.S_newB (Kd.S_newB (Kd.S_new' (Kd.S_new' (Kd.S_new' ho0 (Kd.R_lt (Xq HO_305004))) (Kd.S_lt (Xq HO_311002))) (Kd.R_lt (Xq HO_320004))) (g := gb304) (o := .cells #[.int .i64 t296, .int .i64 t297, .int .i64 t298, .string t299, .slice Ao21 t300.length co21] 43 (0, 0)) BK304.out) (g := gb319) (o := .cells #[.int .i64 t311, .int .i64 t312, .int .i64 t313, .string t314, .slice Ao38 t315.length co38] 43 (0, 0)) BK319.out) (below_size Xi)); replace HO_305004 := Aside0.mk (Kd.R_below (Xq HO_305004) hb); replace HO_311002 := Aside0.mk (Kd.S_elder' (Xq HO_311002) (Kd.S_base ho0) hb); replace HO_320004 := Aside0.mk (Kd.R_below (Xq HO_320004) hb); replace BK289 := Xbb BK289 hb; replace BK304 := Xbb BK304 hb; replace BK310 := Xbb BK310 hb; replace BK319 := Xbb BK319 hb; replace HB := Aside0.mk (below_step Xi hb); clear hb; (try clear ho0); obtain ⟨Ao114, co114, eo114⟩ := Kd.S_slice HO337.out; subst eo114) | ((with_reducible refine gate_callee (f := 26) rfl ?_); refine Xgo 81 Try.func26 #[.agg #[.int .i64 t333, .int .i64 t334, .slice Ao114 t335.length co114], .int .i64 a1] ?_; (with_reducible refine (impl_NodeAt.calls kj67 t333 t334 _ _ t335 a1 t338 t339 t340 t341 t342 t345 _ ?side1 ?side2 A107.out).mono ?_); (case side1 => repeat (first | exact (Kd.S_reads' HO337.out).2.2 | (with_reducible first | refine Kd.C_alloc ?_ _ | refine Kd.C_drewN ?_ _ | refine Kd.C_drew ?_))); (case side2 => exact (Kd.S_reads' HO337.out).2.1); rintro e w115 ⟨v343, rfl, ho0, hb⟩; refine ⟨_, rfl, ?_⟩; replace HO_311002 := Aside0.mk (Kd.S_elder' (Xq HO_311002) (Kd.R_base ho0) hb); replace HO337 := Aside0.mk (Kd.S_elder' (Xq HO337) (Kd.R_base ho0) hb); have HO344 := Aside0.mk (Kd.R_lower (Kd.R_new' (Kd.R_new' ho0 (Kd.R_lt (Xq HO_305004))) (Kd.R_lt (Xq HO_320004))) (below_size Xi)); replace HO_305004 := Aside0.mk (Kd.R_elder' (Xq HO_305004) (Kd.R_base ho0) hb); replace HO_320004 := Aside0.mk (Kd.R_elder' (Xq HO_320004) (Kd.R_base ho0) hb); replace BK289 := Xbb BK289 hb; replace BK304 := Xbb BK304 hb; replace BK310 := Xbb BK310 hb; replace BK319 := Xbb BK319 hb; replace HB := Aside0.mk (below_step Xi hb); clear hb; (try clear ho0)) | ((with_reducible refine gate_dst (N := 14) rfl ?_); refine Xbox 14 #[.int .i64 0, .int .i64 0, .int .i64 0, .string (⟨#[]⟩ : ByteArray), .slice none 0 0] 43 ?_; intro gb346 hg w116 hbox hb; replace HO_305004 := Aside0.mk (Kd.R_below (Xq HO_305004) hb); replace HO_311002 := Aside0.mk (Kd.S_below (Kd.S_elderB (Xq HO_311002) gb346 (Nat.le_of_eq hg.symm)) hb); replace HO_320004 := Aside0.mk (Kd.R_below (Xq HO_320004) hb); replace HO337 := Aside0.mk (Kd.S_below (Kd.S_elderB (Xq HO337) gb346 (Nat.le_of_eq hg.symm)) hb); replace HO344 := Aside0.mk (Kd.R_below (Xq HO344) hb); have BK346 := Aside0.mk (hbox); have GE346 := Xge hg Xi; replace HB := Aside0.mk (below_step Xi hb); have NB289_346 := Xnb hg BK289; have NB346_289 := Xns NB289_346; replace BK289 := Xbb BK289 hb; have NB304_346 := Xnb hg BK304; have NB346_304 := Xns NB304_346; replace BK304 := Xbb BK304 hb; have NB310_346 := Xnb hg BK310; have NB346_310 := Xns NB310_346; replace BK310 := Xbb BK310 hb; have NB319_346 := Xnb hg BK319; have NB346_319 := Xns NB319_346; replace BK319 := Xbb BK319 hb; clear hb hbox hg; have hnb117 := NB346_289.out; have hnc117 := NB289_346.out; have hnb118 := NB346_304.out; have hnc118 := NB304_346.out; have hnb119 := NB346_310.out; have hnc119 := NB310_346.out; have hnb120 := NB346_319.out; have hnc120 := NB319_346.out; obtain ⟨hcz121_0, hcz121_1, hcz121_2, hcz121_3, hcz121_4⟩ := Xc5 BK346; obtain ⟨hfz121_0, hfz121_1, hfz121_2, hfz121_3, hfz121_4⟩ := Xf5 BK346; obtain ⟨Ao122, co122, eo122⟩ := Kd.R_slice HO344.out; subst eo122) | ((with_reducible refine gate_store (t := 43) (p := 14) rfl ?_); refine store_event (t := 43) (p := 14) (v := ?vo_w123) (w1 := (((((w116.setCell ⟨gb346, 0, none⟩ (.int .i64 t338)).setCell ⟨gb346, 1, none⟩ (.int .i64 t339)).setCell ⟨gb346, 2, none⟩ (.int .i64 t340)).setCell ⟨gb346, 3, none⟩ (.string t341)).setCell ⟨gb346, 4, none⟩ (.slice Ao122 t342.length co122))) ?hg ?ho ?hn ?hr ?_; (case ho => rfl); (case hg => rfl); (case hn => rfl); (case hr => first | (go_simp; done) | (go_simp; rfl)); intro w123 hw; have n0_ : Aside0 (Kd.R (Kd.int .i64) 3 w123 w.heap.size (fun k_ => some k_ ≠ (.slice Ao38 t315.length co38 : Value).ownBlock ∧ some k_ ≠ (.slice Ao122 t342.length co122 : Value).ownBlock) (.slice Ao21 t300.length co21) t300) := ⟨(by rw [hw]; exact (by (with_reducible repeat (first | apply Kd.R_alloc | apply Kd.R_drewN | apply Kd.R_drew)); exact Kd.R_mono (Kd.R_far (p := ⟨gb346, 4, none⟩) (Kd.R_far (p := ⟨gb346, 3, none⟩) (Kd.R_far (p := ⟨gb346, 2, none⟩) (Kd.R_far (p := ⟨gb346, 1, none⟩) (Kd.R_far (p := ⟨gb346, 0, none⟩) (Kd.R_types HO_305004.out BK346.out (by decide)) (fun _ hk => hk.2) (.int .i64 t338)) (fun _ hk => hk.2) (.int .i64 t339)) (fun _ hk => hk.2) (.int .i64 t340)) (fun _ hk => hk.2) (.string t341)) (fun _ hk => hk.2) (.slice Ao122 t342.length co122)) (fun _ hk => ⟨hk.1.1, hk.1.2⟩)))⟩; have n1_ : Aside0 (Kd.S k43 43 w123 w.heap.size (fun k_ => some k_ ≠ (.slice Ao21 t300.length co21 : Value).ownBlock ∧ some k_ ≠ (.slice Ao38 t315.length co38 : Value).ownBlock ∧ some k_ ≠ (.slice Ao114 t335.length co114 : Value).ownBlock ∧ some k_ ≠ (.slice Ao122 t342.length co122 : Value).ownBlock ∧ k_ ≠ gb304 ∧ k_ ≠ gb319 ∧ k_ ≠ gb346) (.slice Ao29 t328.length co29) t328) := ⟨(by rw [hw]; exact (by (with_reducible repeat (first | apply Kd.S_alloc | apply Kd.S_drewN | apply Kd.S_drew)); exact Kd.S_mono (Kd.S_far (p := ⟨gb346, 4, none⟩) (Kd.S_far (p := ⟨gb346, 3, none⟩) (Kd.S_far (p := ⟨gb346, 2, none⟩) (Kd.S_far (p := ⟨gb346, 1, none⟩) (Kd.S_far (p := ⟨gb346, 0, none⟩) (Kd.S_mono HO_311002.out (fun k_ hk => (⟨hk, hk.2⟩ : _ ∧ k_ ≠ gb346))) (fun _ hk => hk.2) (.int .i64 t338)) (fun _ hk => hk.2) (.int .i64 t339)) (fun _ hk => hk.2) (.int .i64 t340)) (fun _ hk => hk.2) (.string t341)) (fun _ hk => hk.2) (.slice Ao122 t342.length co122)) (fun _ hk => ⟨hk.1.1.1.1.1, ⟨hk.1.1.1.1.2.1, ⟨hk.1.1.1.2, ⟨hk.1.1.2, ⟨hk.1.1.1.1.2.2.1, ⟨hk.1.1.1.1.2.2.2, hk.1.2⟩⟩⟩⟩⟩⟩)))⟩; have n2_ : Aside0 (Kd.R (Kd.int .i64) 3 w123 w.heap.size (fun k_ => some k_ ≠ (.slice Ao21 t300.length co21 : Value).ownBlock ∧ some k_ ≠ (.slice Ao122 t342.length co122 : Value).ownBlock) (.slice Ao38 t315.length co38) t331) := ⟨(by rw [hw]; exact (by (with_reducible repeat (first | apply Kd.R_alloc | apply Kd.R_drewN | apply Kd.R_drew)); exact Kd.R_mono (Kd.R_far (p := ⟨gb346, 4, none⟩) (Kd.R_far (p := ⟨gb346, 3, none⟩) (Kd.R_far (p := ⟨gb346, 2, none⟩) (Kd.R_far (p := ⟨gb346, 1, none⟩) (Kd.R_far (p := ⟨gb346, 0, none⟩) (Kd.R_types HO_320004.out BK346.out (by decide)) (fun _ hk => hk.2) (.int .i64 t338)) (fun _ hk => hk.2) (.int .i64 t339)) (fun _ hk => hk.2) (.int .i64 t340)) (fun _ hk => hk.2) (.string t341)) (fun _ hk => hk.2) (.slice Ao122 t342.length co122)) (fun _ hk => ⟨hk.1.1, hk.1.2⟩)))⟩; have n3_ : Aside0 (Kd.S k43 43 w123 w.heap.size (fun k_ => some k_ ≠ (.slice Ao21 t300.length co21 : Value).ownBlock ∧ some k_ ≠ (.slice Ao29 t328.length co29 : Value).ownBlock ∧ some k_ ≠ (.slice Ao38 t315.length co38 : Value).ownBlock ∧ some k_ ≠ (.slice Ao122 t342.length co122 : Value).ownBlock ∧ k_ ≠ gb304 ∧ k_ ≠ gb319 ∧ k_ ≠ gb346) (.slice Ao114 t335.length co114) t335) := ⟨(by rw [hw]; exact (by (with_reducible repeat (first | apply Kd.S_alloc | apply Kd.S_drewN | apply Kd.S_drew)); exact Kd.S_mono (Kd.S_far (p := ⟨gb346, 4, none⟩) (Kd.S_far (p := ⟨gb346, 3, none⟩) (Kd.S_far (p := ⟨gb346, 2, none⟩) (Kd.S_far (p := ⟨gb346, 1, none⟩) (Kd.S_far (p := ⟨gb346, 0, none⟩) (Kd.S_mono HO337.out (fun k_ hk => (⟨hk, hk.2⟩ : _ ∧ k_ ≠ gb346))) (fun _ hk => hk.2) (.int .i64 t338)) (fun _ hk => hk.2) (.int .i64 t339)) (fun _ hk => hk.2) (.int .i64 t340)) (fun _ hk => hk.2) (.string t341)) (fun _ hk => hk.2) (.slice Ao122 t342.length co122)) (fun _ hk => ⟨hk.1.1.1.1.1.1.1.2, ⟨hk.1.1.1.1.1.1.2, ⟨hk.1.1.1.1.1.2, ⟨hk.1.1.2, ⟨hk.1.1.1.1.2, ⟨hk.1.1.1.2, hk.1.2⟩⟩⟩⟩⟩⟩)))⟩; have n4_ : Aside0 (Kd.R (Kd.int .i64) 3 w123 w.heap.size (fun k_ => some k_ ≠ (.slice Ao21 t300.length co21 : Value).ownBlock ∧ some k_ ≠ (.slice Ao38 t315.length co38 : Value).ownBlock) (.slice Ao122 t342.length co122) t342) := ⟨(by rw [hw]; exact (by (with_reducible repeat (first | apply Kd.R_alloc | apply Kd.R_drewN | apply Kd.R_drew)); exact Kd.R_mono (Kd.R_far (p := ⟨gb346, 4, none⟩) (Kd.R_far (p := ⟨gb346, 3, none⟩) (Kd.R_far (p := ⟨gb346, 2, none⟩) (Kd.R_far (p := ⟨gb346, 1, none⟩) (Kd.R_far (p := ⟨gb346, 0, none⟩) (Kd.R_types HO344.out BK346.out (by decide)) (fun _ hk => hk.2) (.int .i64 t338)) (fun _ hk => hk.2) (.int .i64 t339)) (fun _ hk => hk.2) (.int .i64 t340)) (fun _ hk => hk.2) (.string t341)) (fun _ hk => hk.2) (.slice Ao122 t342.length co122)) (fun _ hk => ⟨hk.1.1.2, hk.1.2⟩)))⟩; have n5_ : Aside0 (w123.heap[gb289]? = some (.cells #[.int .i64 a0_0, .int .i64 a0_1, .slice A0_2 l0_2.length c0_2] 24 (0, 0))) := ⟨(by rw [hw]; exact (by (with_reducible repeat (first | refine blk_drewN ?_ _ | refine blk_drew ?_ | refine blk_alloc ?_ _)); refine blk_far ?_ NB289_346.out _; (with_reducible repeat (first | refine blk_drewN ?_ _ | refine blk_drew ?_ | refine blk_alloc ?_ _)); refine blk_far ?_ NB289_346.out _; (with_reducible repeat (first | refine blk_drewN ?_ _ | refine blk_drew ?_ | refine blk_alloc ?_ _)); refine blk_far ?_ NB289_346.out _; (with_reducible repeat (first | refine blk_drewN ?_ _ | refine blk_drew ?_ | refine blk_alloc ?_ _)); refine blk_far ?_ NB289_346.out _; (with_reducible repeat (first | refine blk_drewN ?_ _ | refine blk_drew ?_ | refine blk_alloc ?_ _)); refine blk_far ?_ NB289_346.out _; (with_reducible repeat (first | refine blk_drewN ?_ _ | refine blk_drew ?_ | refine blk_alloc ?_ _)); exact BK289.out))⟩; have n6_ : Aside0 (w123.heap[gb304]? = some (.cells #[.int .i64 t296, .int .i64 t297, .int .i64 t298, .string t299, .slice Ao21 t300.length co21] 43 (0, 0))) := ⟨(by rw [hw]; exact (by (with_reducible repeat (first | refine blk_drewN ?_ _ | refine blk_drew ?_ | refine blk_alloc ?_ _)); refine blk_far ?_ NB304_346.out _; (with_reducible repeat (first | refine blk_drewN ?_ _ | refine blk_drew ?_ | refine blk_alloc ?_ _)); refine blk_far ?_ NB304_346.out _; (with_reducible repeat (first | refine blk_drewN ?_ _ | refine blk_drew ?_ | refine blk_alloc ?_ _)); refine blk_far ?_ NB304_346.out _; (with_reducible repeat (first | refine blk_drewN ?_ _ | refine blk_drew ?_ | refine blk_alloc ?_ _)); refine blk_far ?_ NB304_346.out _; (with_reducible repeat (first | refine blk_drewN ?_ _ | refine blk_drew ?_ | refine blk_alloc ?_ _)); refine blk_far ?_ NB304_346.out _; (with_reducible repeat (first | refine blk_drewN ?_ _ | refine blk_drew ?_ | refine blk_alloc ?_ _)); exact BK304.out))⟩; have n7_ : Aside0 (w123.heap[gb310]? = some (.cells #[.int .i64 t305, .int .i64 t306, .slice Ao29 t328.length co29] 29 (0, 0))) := ⟨(by rw [hw]; exact (by (with_reducible repeat (first | refine blk_drewN ?_ _ | refine blk_drew ?_ | refine blk_alloc ?_ _)); refine blk_far ?_ NB310_346.out _; (with_reducible repeat (first | refine blk_drewN ?_ _ | refine blk_drew ?_ | refine blk_alloc ?_ _)); refine blk_far ?_ NB310_346.out _; (with_reducible repeat (first | refine blk_drewN ?_ _ | refine blk_drew ?_ | refine blk_alloc ?_ _)); refine blk_far ?_ NB310_346.out _; (with_reducible repeat (first | refine blk_drewN ?_ _ | refine blk_drew ?_ | refine blk_alloc ?_ _)); refine blk_far ?_ NB310_346.out _; (with_reducible repeat (first | refine blk_drewN ?_ _ | refine blk_drew ?_ | refine blk_alloc ?_ _)); refine blk_far ?_ NB310_346.out _; (with_reducible repeat (first | refine blk_drewN ?_ _ | refine blk_drew ?_ | refine blk_alloc ?_ _)); exact BK310.out))⟩; have n8_ : Aside0 (w123.heap[gb319]? = some (.cells #[.int .i64 t311, .int .i64 t312, .int .i64 t313, .string t314, .slice Ao38 t315.length co38] 43 (0, 0))) := ⟨(by rw [hw]; exact (by (with_reducible repeat (first | refine blk_drewN ?_ _ | refine blk_drew ?_ | refine blk_alloc ?_ _)); refine blk_far ?_ NB319_346.out _; (with_reducible repeat (first | refine blk_drewN ?_ _ | refine blk_drew ?_ | refine blk_alloc ?_ _)); refine blk_far ?_ NB319_346.out _; (with_reducible repeat (first | refine blk_drewN ?_ _ | refine blk_drew ?_ | refine blk_alloc ?_ _)); refine blk_far ?_ NB319_346.out _; (with_reducible repeat (first | refine blk_drewN ?_ _ | refine blk_drew ?_ | refine blk_alloc ?_ _)); refine blk_far ?_ NB319_346.out _; (with_reducible repeat (first | refine blk_drewN ?_ _ | refine blk_drew ?_ | refine blk_alloc ?_ _)); refine blk_far ?_ NB319_346.out _; (with_reducible repeat (first | refine blk_drewN ?_ _ | refine blk_drew ?_ | refine blk_alloc ?_ _)); exact BK319.out))⟩; have n9_ : Aside0 (w123.heap[gb346]? = some (.cells #[.int .i64 t338, .int .i64 t339, .int .i64 t340, .string t341, .slice Ao122 t342.length co122] 43 (0, 0))) := ⟨(by rw [hw]; exact (by (with_reducible repeat (first | refine blk_drewN ?_ _ | refine blk_drew ?_ | refine blk_alloc ?_ _)); refine blk_put (cs := #[.int .i64 t338, .int .i64 t339, .int .i64 t340, .string t341, .slice none 0 0]) ?_ 4 _ rfl; (with_reducible repeat (first | refine blk_drewN ?_ _ | refine blk_drew ?_ | refine blk_alloc ?_ _)); refine blk_put (cs := #[.int .i64 t338, .int .i64 t339, .int .i64 t340, .string (⟨#[]⟩ : ByteArray), .slice none 0 0]) ?_ 3 _ rfl; (with_reducible repeat (first | refine blk_drewN ?_ _ | refine blk_drew ?_ | refine blk_alloc ?_ _)); refine blk_put (cs := #[.int .i64 t338, .int .i64 t339, .int .i64 0, .string (⟨#[]⟩ : ByteArray), .slice none 0 0]) ?_ 2 _ rfl; (with_reducible repeat (first | refine blk_drewN ?_ _ | refine blk_drew ?_ | refine blk_alloc ?_ _)); refine blk_put (cs := #[.int .i64 t338, .int .i64 0, .int .i64 0, .string (⟨#[]⟩ : ByteArray), .slice none 0 0]) ?_ 1 _ rfl; (with_reducible repeat (first | refine blk_drewN ?_ _ | refine blk_drew ?_ | refine blk_alloc ?_ _)); refine blk_put (cs := #[.int .i64 0, .int .i64 0, .int .i64 0, .string (⟨#[]⟩ : ByteArray), .slice none 0 0]) ?_ 0 _ rfl; (with_reducible repeat (first | refine blk_drewN ?_ _ | refine blk_drew ?_ | refine blk_alloc ?_ _)); exact BK346.out))⟩; have n10_ : Aside0 (Below w.heap.size w w123) := ⟨(by rw [hw]; exact Xi)⟩; clear hw; clear HO_305004; clear HO_311002; clear HO_320004; clear HO337; clear HO344; clear BK289; clear BK304; clear BK310; clear BK319; clear BK346; clear HB; have HO_305004 := n0_; have HO_311002 := n1_; have HO_320004 := n2_; have HO337 := n3_; have HO344 := n4_; have BK289 := n5_; have BK304 := n6_; have BK310 := n7_; have BK319 := n8_; have BK346 := n9_; have HB := n10_; clear n0_ n1_ n2_ n3_ n4_ n5_ n6_ n7_ n8_ n9_ n10_))
           (try simp only [XW.q0, XW.q1, XW.q2])
           go_cut [92] (fun v92 wc => ∃ (kq : Nat) (x92_107 : Bool), v92 = .bool x92_107 ∧ Aside0 (laws_FnExactNodeAt.j2 kq t330 x92_107 t311 t312 t313 t314 t331 = some true) ∧ Aside0 (kq ≤ kj67) ∧ Aside0 (Kd.R (Kd.int .i64) 3 wc w.heap.size (fun k_ => some k_ ≠ ((.slice Ao38 t315.length co38) : Value).ownBlock ∧ some k_ ≠ ((.slice Ao122 t342.length co122) : Value).ownBlock) (.slice Ao21 t300.length co21) t300) ∧ Aside0 (Kd.S k43 43 wc w.heap.size (fun k_ => some k_ ≠ ((.slice Ao21 t300.length co21) : Value).ownBlock ∧ some k_ ≠ ((.slice Ao38 t315.length co38) : Value).ownBlock ∧ some k_ ≠ ((.slice Ao122 t342.length co122) : Value).ownBlock ∧ k_ ≠ gb304 ∧ k_ ≠ gb319 ∧ k_ ≠ gb346) (.slice Ao29 t328.length co29) t328) ∧ Aside0 (Kd.R (Kd.int .i64) 3 wc w.heap.size (fun k_ => some k_ ≠ ((.slice Ao21 t300.length co21) : Value).ownBlock ∧ some k_ ≠ ((.slice Ao122 t342.length co122) : Value).ownBlock) (.slice Ao38 t315.length co38) t331) ∧ Aside0 (Kd.R (Kd.int .i64) 3 wc w.heap.size (fun k_ => some k_ ≠ ((.slice Ao21 t300.length co21) : Value).ownBlock ∧ some k_ ≠ ((.slice Ao38 t315.length co38) : Value).ownBlock) (.slice Ao122 t342.length co122) t342) ∧ Aside0 (wc.heap[gb289]? = some (.cells #[.int .i64 a0_0, .int .i64 a0_1, (.slice A0_2 l0_2.length c0_2)] 24 (0, 0))) ∧ Aside0 (wc.heap[gb304]? = some (.cells #[.int .i64 t296, .int .i64 t297, .int .i64 t298, .string t299, (.slice Ao21 t300.length co21)] 43 (0, 0))) ∧ Aside0 (wc.heap[gb310]? = some (.cells #[.int .i64 t305, .int .i64 t306, (.slice Ao29 t328.length co29)] 29 (0, 0))) ∧ Aside0 (wc.heap[gb319]? = some (.cells #[.int .i64 t311, .int .i64 t312, .int .i64 t313, .string t314, (.slice Ao38 t315.length co38)] 43 (0, 0))) ∧ Aside0 (wc.heap[gb346]? = some (.cells #[.int .i64 t338, .int .i64 t339, .int .i64 t340, .string t341, (.slice Ao122 t342.length co122)] 43 (0, 0))) ∧ Aside0 (Below w.heap.size w wc))
           case first =>
            have H := HC108.out
            clear HC108
            obtain ⟨t347, A124, H⟩ := Xbi H
            (try dsimp only at H)
            by_cases c125 : t347 = true
            ·subst c125
             (first | rw [if_pos rfl] at H | skip)
             have H' := Aside0.mk H
             clear H
             have hnb126 := NB346_289.out
             have hnc126 := NB289_346.out
             have hnb127 := NB346_304.out
             have hnc127 := NB304_346.out
             have hnb128 := NB346_310.out
             have hnc128 := NB310_346.out
             have hnb129 := NB346_319.out
             have hnc129 := NB319_346.out
             obtain ⟨hcz130_0, hcz130_1, hcz130_2, hcz130_3, hcz130_4⟩ := Xc5 BK346
             obtain ⟨hfz130_0, hfz130_1, hfz130_2, hfz130_3, hfz130_4⟩ := Xf5 BK346
             have hnb131 := NB304_289.out
             have hnc131 := NB289_304.out
             have hnb132 := NB304_310.out
             have hnc132 := NB310_304.out
             have hnb133 := NB304_319.out
             have hnc133 := NB319_304.out
             obtain ⟨hcz134_0, hcz134_1, hcz134_2, hcz134_3, hcz134_4⟩ := Xc5 BK304
             obtain ⟨hfz134_0, hfz134_1, hfz134_2, hfz134_3, hfz134_4⟩ := Xf5 BK304
             go_wp2_with (first | ((with_reducible refine gate_callee (f := 33) rfl ?_); refine Xgo 86 Try.func33 #[.agg #[.int .i64 t338, .int .i64 t339, .int .i64 t340, .string t341, .slice Ao122 t342.length co122], .agg #[.int .i64 t296, .int .i64 t297, .int .i64 t298, .string t299, .slice Ao21 t300.length co21]] ?_; (with_reducible refine (laws_eqNode.calls kj67 t338 t339 t340 t341 _ _ t342 t296 t297 t298 t299 _ _ t300 true _ ?side1 ?side2 ?side3 ?side4 A124.out).mono ?_); (case side1 => repeat (first | exact (Kd.R_reads' HO344.out).2.2 | (with_reducible first | refine Kd.C_alloc ?_ _ | refine Kd.C_drewN ?_ _ | refine Kd.C_drew ?_))); (case side2 => exact (Kd.R_reads' HO344.out).2.1); (case side3 => repeat (first | exact (Kd.R_reads' HO_305004.out).2.2 | (with_reducible first | refine Kd.C_alloc ?_ _ | refine Kd.C_drewN ?_ _ | refine Kd.C_drew ?_))); (case side4 => exact (Kd.R_reads' HO_305004.out).2.1); rintro e w135 ⟨rfl, hb⟩; refine ⟨_, rfl, ?_⟩; replace HO_305004 := Aside0.mk (Kd.R_below (Xq HO_305004) hb); replace HO_311002 := Aside0.mk (Kd.S_below (Xq HO_311002) hb); replace HO_320004 := Aside0.mk (Kd.R_below (Xq HO_320004) hb); replace HO337 := Aside0.mk (Kd.S_below (Xq HO337) hb); replace HO344 := Aside0.mk (Kd.R_below (Xq HO344) hb); replace BK289 := Xbb BK289 hb; replace BK304 := Xbb BK304 hb; replace BK310 := Xbb BK310 hb; replace BK319 := Xbb BK319 hb; replace BK346 := Xbb BK346 hb; replace HB := Aside0.mk (below_step Xi hb); clear hb))
             go_meet
             case rel => exact ⟨_, ((t345 != t303)), Xr, H', ⟨by have := HJ12.out; have := HJ67.out; first | omega | exact Nat.le_refl _⟩, ⟨by (try simp only [hl311002_67]); (with_reducible repeat (first | apply Kd.R_alloc | apply Kd.R_drewN | apply Kd.R_drew)); exact HO_305004.out⟩, ⟨by (try simp only [hl311002_67]); (with_reducible repeat (first | apply Kd.S_alloc | apply Kd.S_drewN | apply Kd.S_drew)); exact Kd.S_mono HO_311002.out (fun _ hk => ⟨hk.1, ⟨hk.2.1, ⟨hk.2.2.2.1, ⟨hk.2.2.2.2.1, ⟨hk.2.2.2.2.2.1, hk.2.2.2.2.2.2⟩⟩⟩⟩⟩)⟩, ⟨by (try simp only [hl311002_67]); (with_reducible repeat (first | apply Kd.R_alloc | apply Kd.R_drewN | apply Kd.R_drew)); exact HO_320004.out⟩, ⟨by (try simp only [hl311002_67]); (with_reducible repeat (first | apply Kd.R_alloc | apply Kd.R_drewN | apply Kd.R_drew)); exact HO344.out⟩, ⟨by (try simp only [hl311002_67]); exact BK289.out⟩, ⟨by (try simp only [hl311002_67]); exact BK304.out⟩, ⟨by (try simp only [hl311002_67]); exact BK310.out⟩, ⟨by (try simp only [hl311002_67]); exact BK319.out⟩, ⟨by (try simp only [hl311002_67]); exact BK346.out⟩, ⟨Xi⟩⟩
            ·replace c125 := Bool.eq_false_iff.mpr c125
             subst c125
             (first | rw [if_neg (show ¬ (false = true) by decide)] at H | skip)
             have H' := Aside0.mk H
             clear H
             have hnb136 := NB346_289.out
             have hnc136 := NB289_346.out
             have hnb137 := NB346_304.out
             have hnc137 := NB304_346.out
             have hnb138 := NB346_310.out
             have hnc138 := NB310_346.out
             have hnb139 := NB346_319.out
             have hnc139 := NB319_346.out
             obtain ⟨hcz140_0, hcz140_1, hcz140_2, hcz140_3, hcz140_4⟩ := Xc5 BK346
             obtain ⟨hfz140_0, hfz140_1, hfz140_2, hfz140_3, hfz140_4⟩ := Xf5 BK346
             have hnb141 := NB304_289.out
             have hnc141 := NB289_304.out
             have hnb142 := NB304_310.out
             have hnc142 := NB310_304.out
             have hnb143 := NB304_319.out
             have hnc143 := NB319_304.out
             obtain ⟨hcz144_0, hcz144_1, hcz144_2, hcz144_3, hcz144_4⟩ := Xc5 BK304
             obtain ⟨hfz144_0, hfz144_1, hfz144_2, hfz144_3, hfz144_4⟩ := Xf5 BK304
             go_wp2_with (first | ((with_reducible refine gate_callee (f := 33) rfl ?_); refine Xgo 86 Try.func33 #[.agg #[.int .i64 t338, .int .i64 t339, .int .i64 t340, .string t341, .slice Ao122 t342.length co122], .agg #[.int .i64 t296, .int .i64 t297, .int .i64 t298, .string t299, .slice Ao21 t300.length co21]] ?_; (with_reducible refine (laws_eqNode.calls kj67 t338 t339 t340 t341 _ _ t342 t296 t297 t298 t299 _ _ t300 false _ ?side1 ?side2 ?side3 ?side4 A124.out).mono ?_); (case side1 => repeat (first | exact (Kd.R_reads' HO344.out).2.2 | (with_reducible first | refine Kd.C_alloc ?_ _ | refine Kd.C_drewN ?_ _ | refine Kd.C_drew ?_))); (case side2 => exact (Kd.R_reads' HO344.out).2.1); (case side3 => repeat (first | exact (Kd.R_reads' HO_305004.out).2.2 | (with_reducible first | refine Kd.C_alloc ?_ _ | refine Kd.C_drewN ?_ _ | refine Kd.C_drew ?_))); (case side4 => exact (Kd.R_reads' HO_305004.out).2.1); rintro e w145 ⟨rfl, hb⟩; refine ⟨_, rfl, ?_⟩; replace HO_305004 := Aside0.mk (Kd.R_below (Xq HO_305004) hb); replace HO_311002 := Aside0.mk (Kd.S_below (Xq HO_311002) hb); replace HO_320004 := Aside0.mk (Kd.R_below (Xq HO_320004) hb); replace HO337 := Aside0.mk (Kd.S_below (Xq HO337) hb); replace HO344 := Aside0.mk (Kd.R_below (Xq HO344) hb); replace BK289 := Xbb BK289 hb; replace BK304 := Xbb BK304 hb; replace BK310 := Xbb BK310 hb; replace BK319 := Xbb BK319 hb; replace BK346 := Xbb BK346 hb; replace HB := Aside0.mk (below_step Xi hb); clear hb))
             go_meet
             case rel => exact ⟨_, (true), Xr, H', ⟨by have := HJ12.out; have := HJ67.out; first | omega | exact Nat.le_refl _⟩, ⟨by (try simp only [hl311002_67]); (with_reducible repeat (first | apply Kd.R_alloc | apply Kd.R_drewN | apply Kd.R_drew)); exact HO_305004.out⟩, ⟨by (try simp only [hl311002_67]); (with_reducible repeat (first | apply Kd.S_alloc | apply Kd.S_drewN | apply Kd.S_drew)); exact Kd.S_mono HO_311002.out (fun _ hk => ⟨hk.1, ⟨hk.2.1, ⟨hk.2.2.2.1, ⟨hk.2.2.2.2.1, ⟨hk.2.2.2.2.2.1, hk.2.2.2.2.2.2⟩⟩⟩⟩⟩)⟩, ⟨by (try simp only [hl311002_67]); (with_reducible repeat (first | apply Kd.R_alloc | apply Kd.R_drewN | apply Kd.R_drew)); exact HO_320004.out⟩, ⟨by (try simp only [hl311002_67]); (with_reducible repeat (first | apply Kd.R_alloc | apply Kd.R_drewN | apply Kd.R_drew)); exact HO344.out⟩, ⟨by (try simp only [hl311002_67]); exact BK289.out⟩, ⟨by (try simp only [hl311002_67]); exact BK304.out⟩, ⟨by (try simp only [hl311002_67]); exact BK310.out⟩, ⟨by (try simp only [hl311002_67]); exact BK319.out⟩, ⟨by (try simp only [hl311002_67]); exact BK346.out⟩, ⟨Xi⟩⟩
           case rest =>
            clear HC108
            (try clear c8); (try clear c8b0); (try clear c58); (try clear c66); (try clear c93); (try clear c104); (try clear c104b0); (try clear c105); (try clear c105b0); (try clear c105b1); (try clear hcz100_0); (try clear hcz100_1); (try clear hcz100_2); (try clear hcz100_3); (try clear hcz100_4); (try clear hcz102_0); (try clear hcz102_1); (try clear hcz102_2); (try clear hcz102_3); (try clear hcz102_4); (try clear hcz112_0); (try clear hcz112_1); (try clear hcz112_2); (try clear hcz121_0); (try clear hcz121_1); (try clear hcz121_2); (try clear hcz121_3); (try clear hcz121_4); (try clear hcz14_0); (try clear hcz14_1); (try clear hcz14_2); (try clear hcz20_0); (try clear hcz20_1); (try clear hcz20_2); (try clear hcz20_3); (try clear hcz20_4); (try clear hcz23_0); (try clear hcz23_1); (try clear hcz23_2); (try clear hcz28_0); (try clear hcz28_1); (try clear hcz28_2); (try clear hcz31_0); (try clear hcz31_1); (try clear hcz31_2); (try clear hcz37_0); (try clear hcz37_1); (try clear hcz37_2); (try clear hcz37_3); (try clear hcz37_4); (try clear hcz6_0); (try clear hcz6_1); (try clear hcz6_2); (try clear hcz72_0); (try clear hcz72_1); (try clear hcz72_2); (try clear hfz100_0); (try clear hfz100_1); (try clear hfz100_2); (try clear hfz100_3); (try clear hfz100_4); (try clear hfz102_0); (try clear hfz102_1); (try clear hfz102_2); (try clear hfz102_3); (try clear hfz102_4); (try clear hfz112_0); (try clear hfz112_1); (try clear hfz112_2); (try clear hfz121_0); (try clear hfz121_1); (try clear hfz121_2); (try clear hfz121_3); (try clear hfz121_4); (try clear hfz14_0); (try clear hfz14_1); (try clear hfz14_2); (try clear hfz20_0); (try clear hfz20_1); (try clear hfz20_2); (try clear hfz20_3); (try clear hfz20_4); (try clear hfz23_0); (try clear hfz23_1); (try clear hfz23_2); (try clear hfz28_0); (try clear hfz28_1); (try clear hfz28_2); (try clear hfz31_0); (try clear hfz31_1); (try clear hfz31_2); (try clear hfz37_0); (try clear hfz37_1); (try clear hfz37_2); (try clear hfz37_3); (try clear hfz37_4); (try clear hfz6_0); (try clear hfz6_1); (try clear hfz6_2); (try clear hfz72_0); (try clear hfz72_1); (try clear hfz72_2)
            obtain ⟨kq, x92_107, rfl, HA, HJ107, HO_305004, HO_311002, HO_320004, HO_347004, BK289, BK304, BK310, BK319, BK346, HB⟩ := hcut
            have hl320004_107 := (Kd.R_reads' HO_320004.out).1
            rw [hl320004_107] at HO_320004
            (try simp only [hl320004_107])
            (try simp only [hl320004_107] at BK289)
            (try simp only [hl320004_107] at BK304)
            (try simp only [hl320004_107] at BK310)
            (try simp only [hl320004_107] at BK319)
            (try simp only [hl320004_107] at BK346)
            (try simp only [hl320004_107] at HO_305004)
            (try simp only [hl320004_107] at HO_311002)
            (try simp only [hl320004_107] at HO_347004)
            cases kq with
            | zero => cases HA.out
            | succ kj107 =>
             have H := HA.out
             clear HA
             simp only [laws_FnExactNodeAt.j2] at H
             by_cases c146 : x92_107 = true
             ·subst c146
              (first | rw [if_pos rfl] at H | skip)
              cases H
             ·replace c146 := Bool.eq_false_iff.mpr c146
              subst c146
              (first | rw [if_neg (show ¬ (false = true) by decide)] at H | skip)
              obtain ⟨t348, A147, H⟩ := Xbi H
              (try dsimp only at H)
              have HC148 := Aside0.mk H
              clear H
              have hnb149 := NB319_289.out
              have hnc149 := NB289_319.out
              have hnb150 := NB319_304.out
              have hnc150 := NB304_319.out
              have hnb151 := NB319_310.out
              have hnc151 := NB310_319.out
              have hnb152 := NB319_346.out
              have hnc152 := NB346_319.out
              obtain ⟨hcz153_0, hcz153_1, hcz153_2, hcz153_3, hcz153_4⟩ := Xc5 BK319
              obtain ⟨hfz153_0, hfz153_1, hfz153_2, hfz153_3, hfz153_4⟩ := Xf5 BK319
              go_upto_if 97 with (first | ((with_reducible refine gate_callee (f := 35) rfl ?_); refine Xgo 95 Try.func35 #[.agg #[.int .i64 t311, .int .i64 t312, .int .i64 t313, .string t314, .slice Ao38 t331.length co38], .int .i64 1] ?_; (with_reducible refine (laws_heldNode.calls kj107 t311 t312 t313 t314 _ _ t331 1 t348 _ ?side1 ?side2 A147.out).mono ?_); (case side1 => repeat (first | exact (Kd.R_reads' HO_320004.out).2.2 | (with_reducible first | refine Kd.C_alloc ?_ _ | refine Kd.C_drewN ?_ _ | refine Kd.C_drew ?_))); (case side2 => exact (Kd.R_reads' HO_320004.out).2.1); rintro e w154 ⟨rfl, hb⟩; refine ⟨_, rfl, ?_⟩; replace HO_305004 := Aside0.mk (Kd.R_below (Xq HO_305004) hb); replace HO_311002 := Aside0.mk (Kd.S_below (Xq HO_311002) hb); replace HO_320004 := Aside0.mk (Kd.R_below (Xq HO_320004) hb); replace HO_347004 := Aside0.mk (Kd.R_below (Xq HO_347004) hb); replace BK289 := Xbb BK289 hb; replace BK304 := Xbb BK304 hb; replace BK310 := Xbb BK310 hb; replace BK319 := Xbb BK319 hb; replace BK346 := Xbb BK346 hb; replace HB := Aside0.mk (below_step Xi hb); clear hb))
              have H := HC148.out
              clear HC148
              obtain ⟨c155b0, H⟩ | ⟨c155b0, H⟩ := Xit H
              ·(first | rw [c155b0] | (simp only [i64_w, i32_w]; rw [c155b0]) | skip)
               cases H
              ·(first | rw [c155b0] | (simp only [i64_w, i32_w]; rw [c155b0]) | skip)
               obtain ⟨c156, H⟩ | ⟨c156, H⟩ := Xiu H
               ·have c156b0 : (t348 == t330) = true := beq_iff_eq.mpr c156
                have c156b1 : (t348 != t330) = false := bne_eq_false_iff_eq.mpr c156
                clear c156
                go_wp2
                go_ret
                exact ⟨Xe, Xi⟩
               ·have c156b0 : (t348 == t330) = false := beq_eq_false_iff_ne.mpr c156
                have c156b1 : (t348 != t330) = true := bne_iff_ne.mpr c156
                cases H
          ·have c105b0 : (t332 == t330) = false := beq_eq_false_iff_ne.mpr c105
           have c105b1 : (t332 != t330) = true := bne_iff_ne.mpr c105
           cases H
     ·replace c66 := Bool.eq_false_iff.mpr c66
      subst c66
      (first | rw [if_neg (show ¬ (false = true) by decide)] at H | skip)
      cases H

end Go.Proofs.Ytpdhccdmbdbdpaa.XA
