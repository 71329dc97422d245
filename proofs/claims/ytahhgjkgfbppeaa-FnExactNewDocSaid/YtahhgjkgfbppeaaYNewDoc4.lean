/- Contracts of the program's functions: each Go function that is named below comes to what its Lean function says. Written by xprint.py (a program of this session's, over the kit's print). Conditions: each contract's own premises. -/
import Derived.Test.YtahhgjkgfbppeaaYNewDoc0
import Derived.Test.YtahhgjkgfbppeaaYNewDoc1
import Derived.Test.YtahhgjkgfbppeaaYNewDoc2
import Derived.Test.YtahhgjkgfbppeaaYNewDoc3
import Derived.Test.YtahhgjkgfbppeaaYNewDocMarkDoc
namespace Go.Proofs.Ytahhgjkgfbppeaa.XA
open Go.RowKit Go.Proofs.YtahhgjkgfbppeaaW.PrintWords Go.Proofs.YtahhgjkgfbppeaaW.PrintLast Go.Proofs.YtahhgjkgfbppeaaW.PrintMore XW
attribute [local go_sem] max2_int min2_int max_two min_two max_three min_three max_four min_four   -- for this text's walks alone
set_option linter.unusedVariables false
set_option linter.unusedSimpArgs false

/-! ### laws_FnExactNewDoc: function 5 -/
mutual
def laws_FnExactNewDoc.j0 : Nat → Int → Int → Bool → Int → Int → List (S73) → Int → Int → List (S73) → Option (Bool)
 | 0, _, _, _, _, _, _, _, _, _ => none
 | k + 1, x0, x4, x29, x153000, x153001, x153002, x160000, x160001, x160002 => if x29 = true then (some false) else ((laws_markDoc.f k x160000 x160001 x160002 1).bind fun bt161 => ((laws_heldDoc.f k x160000 x160001 bt161.2 1).bind fun t163 => (if t163 < 0 then (some false) else (if t163 = bt161.1 then ((impl_NewDoc.f x0).bind fun bt164 => ((laws_eqDoc.f k bt164.1 bt164.2.1 bt164.2.2.1 x153000 x153001 x153002).bind fun t171 => (if t171 = true then (laws_FnExactNewDoc.j1 k bt161.1 (bt164.2.2.2 != x4) x160000 x160001 bt161.2) else (laws_FnExactNewDoc.j1 k bt161.1 true x160000 x160001 bt161.2)))) else (some false)))))
def laws_FnExactNewDoc.j1 : Nat → Int → Bool → Int → Int → List (S73) → Option (Bool)
 | 0, _, _, _, _, _ => none
 | k + 1, x7, x54, x160000, x160001, x160002 => if x54 = true then (some false) else ((laws_heldDoc.f k x160000 x160001 x160002 1).bind fun t172 => (if t172 < 0 then (some false) else (if t172 = x7 then (some true) else (some false))))
end
def laws_FnExactNewDoc.f (k : Nat) (a0 : Int) : Option (Bool) := (spec_NewDoc.f a0).bind fun bt146 => ((impl_NewDoc.f a0).bind fun bt153 => ((laws_eqDoc.f k bt153.1 bt153.2.1 bt153.2.2.1 bt146.1 bt146.2.1 bt146.2.2.1).bind fun t160 => (if t160 = true then (laws_FnExactNewDoc.j0 k a0 bt146.2.2.2 (bt153.2.2.2 != bt146.2.2.2) bt146.1 bt146.2.1 bt146.2.2.1 bt153.1 bt153.2.1 bt153.2.2.1) else (laws_FnExactNewDoc.j0 k a0 bt146.2.2.2 true bt146.1 bt146.2.1 bt146.2.2.1 bt153.1 bt153.2.1 bt153.2.2.1))))
set_option maxHeartbeats 8000000 in
set_option maxRecDepth 100000 in
theorem laws_FnExactNewDoc.calls (k : Nat) (a0 : Int) (r : Bool) (w : World) (hr_ : r = true) (h : laws_FnExactNewDoc.f k a0 = some r) :
  Calls Try.prog 5 #[.int .i64 a0] w fun e w' => e = .returned (.bool r) ∧ Below w.heap.size w w' := by
 subst hr_
 have hu33 := Try.underlying33
 have HB := Aside0.mk (Below.refl w.heap.size w)
 have H : ((spec_NewDoc.f a0).bind fun bt146 => ((impl_NewDoc.f a0).bind fun bt153 => ((laws_eqDoc.f k bt153.1 bt153.2.1 bt153.2.2.1 bt146.1 bt146.2.1 bt146.2.2.1).bind fun t160 => (if t160 = true then (laws_FnExactNewDoc.j0 k a0 bt146.2.2.2 (bt153.2.2.2 != bt146.2.2.2) bt146.1 bt146.2.1 bt146.2.2.1 bt153.1 bt153.2.1 bt153.2.2.1) else (laws_FnExactNewDoc.j0 k a0 bt146.2.2.2 true bt146.1 bt146.2.1 bt146.2.2.1 bt153.1 bt153.2.1 bt153.2.2.1))))) = some true := h
 clear h
 replace H := Option.bind_eq_some_iff.mp H
 obtain ⟨⟨t146, t147, t148, t151⟩, A20, H⟩ := H
 (try dsimp only at H)
 have A2 := Aside0.mk A20
 clear A20
 replace H := Option.bind_eq_some_iff.mp H
 obtain ⟨⟨t153, t154, t155, t158⟩, A30, H⟩ := H
 (try dsimp only at H)
 have A3 := Aside0.mk A30
 clear A30
 have HC4 := Aside0.mk H
 clear H
 go_enter Try.func5, Try.ntmps5
 go_upto_region 3 with (first | ((with_reducible refine gate_callee (f := 25) rfl ?_); refine Xgo 13 Try.func25 #[.int .i64 a0] ?_; (with_reducible refine (spec_NewDoc.calls a0 t146 t147 t148 t151 _ A2.out).mono ?_); rintro e w5 ⟨v149, rfl, ho0, hb⟩; refine ⟨_, rfl, ?_⟩; have HO150 := Aside0.mk (Kd.N_lower (Kd.N_mono (ok' := fun k_ => True) ho0 (fun k_ hk_ => trivial)) (below_size Xi)); replace HB := Aside0.mk (below_step Xi hb); clear hb; (try clear ho0)) | ((with_reducible refine gate_dst (N := 3) rfl ?_); refine Xbox 3 #[.int .i64 0, .int .i64 0, .slice none 0 0] 33 ?_; intro gb152 hg w6 hbox hb; replace HO150 := Aside0.mk (Kd.N_below (Kd.N_elderB (Xq HO150) gb152 (Nat.le_of_eq hg.symm)) hb); have BK152 := Aside0.mk (hbox); have GE152 := Xge hg Xi; replace HB := Aside0.mk (below_step Xi hb); clear hb hbox hg; obtain ⟨hcz7_0, hcz7_1, hcz7_2⟩ := Xc3 BK152; obtain ⟨hfz7_0, hfz7_1, hfz7_2⟩ := Xf3 BK152; obtain ⟨Ao8, co8, eo8⟩ := Kd.N_slice HO150.out; subst eo8) | ((with_reducible refine gate_store (t := 33) (p := 3) rfl ?_); refine store_event (t := 33) (p := 3) (v := ?vo_w9) (w1 := (((w6.setCell ⟨gb152, 0, none⟩ (.int .i64 t146)).setCell ⟨gb152, 1, none⟩ (.int .i64 t147)).setCell ⟨gb152, 2, none⟩ (.slice Ao8 t148.length co8))) ?hg ?ho ?hn ?hr ?_; (case ho => rfl); (case hg => rfl); (case hn => rfl); (case hr => first | (go_simp; done) | (go_simp; rfl)); intro w9 hw; have n0_ : Aside0 (Kd.N k73 73 w9 w.heap.size (fun k_ => k_ ≠ gb152) (.slice Ao8 t148.length co8) t148) := ⟨(by rw [hw]; exact (by (with_reducible repeat (first | apply Kd.N_alloc | apply Kd.N_drewN | apply Kd.N_drew)); exact Kd.N_mono (Kd.N_far (p := ⟨gb152, 2, none⟩) (Kd.N_far (p := ⟨gb152, 1, none⟩) (Kd.N_far (p := ⟨gb152, 0, none⟩) (Kd.N_mono HO150.out (fun k_ hk => (⟨hk, hk.2⟩ : _ ∧ k_ ≠ gb152))) (fun _ hk => hk.2) (.int .i64 t146)) (fun _ hk => hk.2) (.int .i64 t147)) (fun _ hk => hk.2) (.slice Ao8 t148.length co8)) (fun _ hk => hk.1.2)))⟩; have n1_ : Aside0 (w9.heap[gb152]? = some (.cells #[.int .i64 t146, .int .i64 t147, .slice Ao8 t148.length co8] 33 (0, 0))) := ⟨(by rw [hw]; exact (by (with_reducible repeat (first | refine blk_drewN ?_ _ | refine blk_drew ?_ | refine blk_alloc ?_ _)); refine blk_put (cs := #[.int .i64 t146, .int .i64 t147, .slice none 0 0]) ?_ 2 _ rfl; (with_reducible repeat (first | refine blk_drewN ?_ _ | refine blk_drew ?_ | refine blk_alloc ?_ _)); refine blk_put (cs := #[.int .i64 t146, .int .i64 0, .slice none 0 0]) ?_ 1 _ rfl; (with_reducible repeat (first | refine blk_drewN ?_ _ | refine blk_drew ?_ | refine blk_alloc ?_ _)); refine blk_put (cs := #[.int .i64 0, .int .i64 0, .slice none 0 0]) ?_ 0 _ rfl; (with_reducible repeat (first | refine blk_drewN ?_ _ | refine blk_drew ?_ | refine blk_alloc ?_ _)); exact BK152.out))⟩; have n2_ : Aside0 (Below w.heap.size w w9) := ⟨(by rw [hw]; exact Xi)⟩; clear hw; clear HO150; clear BK152; clear HB; have HO150 := n0_; have BK152 := n1_; have HB := n2_; clear n0_ n1_ n2_) | ((with_reducible refine gate_callee (f := 26) rfl ?_); refine Xgo 18 Try.func26 #[.int .i64 a0] ?_; (with_reducible refine (impl_NewDoc.calls a0 t153 t154 t155 t158 _ A3.out).mono ?_); rintro e w10 ⟨v156, rfl, ho0, hb⟩; refine ⟨_, rfl, ?_⟩; obtain ⟨z1_, hzz1_⟩ := XR.zat ho0; have HO157 := Aside0.mk (Kd.S_lower (Kd.S_new' (XR.S_newZ ho0 hzz1_) (Kd.N_lt (Xq HO150))) (below_size Xi)); replace HO150 := Aside0.mk (XR.N_elderZ (Xq HO150) (Kd.S_base ho0) hb hzz1_); replace BK152 := Xbb BK152 hb; replace HB := Aside0.mk (below_step Xi hb); clear hb; (try clear ho0); (try clear hzz1_)) | ((with_reducible refine gate_dst (N := 5) rfl ?_); refine Xbox 5 #[.int .i64 0, .int .i64 0, .slice none 0 0] 33 ?_; intro gb159 hg w11 hbox hb; replace HO150 := Aside0.mk (Kd.N_below (Kd.N_elderB (Xq HO150) gb159 (Nat.le_of_eq hg.symm)) hb); replace HO157 := Aside0.mk (Kd.S_below (Xq HO157) hb); have BK159 := Aside0.mk (hbox); have GE159 := Xge hg Xi; replace HB := Aside0.mk (below_step Xi hb); have NB152_159 := Xnb hg BK152; have NB159_152 := Xns NB152_159; replace BK152 := Xbb BK152 hb; clear hb hbox hg; have hnb12 := NB159_152.out; have hnc12 := NB152_159.out; obtain ⟨hcz13_0, hcz13_1, hcz13_2⟩ := Xc3 BK159; obtain ⟨hfz13_0, hfz13_1, hfz13_2⟩ := Xf3 BK159; obtain ⟨Ao14, co14, eo14⟩ := Kd.S_slice HO157.out; subst eo14) | ((with_reducible refine gate_store (t := 33) (p := 5) rfl ?_); refine store_event (t := 33) (p := 5) (v := ?vo_w15) (w1 := (((w11.setCell ⟨gb159, 0, none⟩ (.int .i64 t153)).setCell ⟨gb159, 1, none⟩ (.int .i64 t154)).setCell ⟨gb159, 2, none⟩ (.slice Ao14 t155.length co14))) ?hg ?ho ?hn ?hr ?_; (case ho => rfl); (case hg => rfl); (case hn => rfl); (case hr => first | (go_simp; done) | (go_simp; rfl)); intro w15 hw; have n0_ : Aside0 (Kd.N k73 73 w15 w.heap.size (fun k_ => some k_ ≠ (.slice Ao14 t155.length co14 : Value).ownBlock ∧ k_ ≠ gb152 ∧ k_ ≠ XR.zlt z1_ k_ ∧ k_ ≠ gb159) (.slice Ao8 t148.length co8) t148) := ⟨(by rw [hw]; exact (by (with_reducible repeat (first | apply Kd.N_alloc | apply Kd.N_drewN | apply Kd.N_drew)); exact Kd.N_mono (Kd.N_far (p := ⟨gb159, 2, none⟩) (Kd.N_far (p := ⟨gb159, 1, none⟩) (Kd.N_far (p := ⟨gb159, 0, none⟩) (Kd.N_mono HO150.out (fun k_ hk => (⟨hk, hk.2⟩ : _ ∧ k_ ≠ gb159))) (fun _ hk => hk.2) (.int .i64 t153)) (fun _ hk => hk.2) (.int .i64 t154)) (fun _ hk => hk.2) (.slice Ao14 t155.length co14)) (fun _ hk => ⟨hk.1.1.1.2, ⟨hk.1.1.1.1, ⟨hk.1.1.2, hk.1.2⟩⟩⟩)))⟩; have n1_ : Aside0 (Kd.S k73 73 w15 w.heap.size (fun k_ => some k_ ≠ (.slice Ao8 t148.length co8 : Value).ownBlock ∧ k_ ≠ XR.zge z1_ k_) (.slice Ao14 t155.length co14) t155) := ⟨(by rw [hw]; exact (by (with_reducible repeat (first | apply Kd.S_alloc | apply Kd.S_drewN | apply Kd.S_drew)); exact Kd.S_mono (Kd.S_far (p := ⟨gb159, 2, none⟩) (Kd.S_far (p := ⟨gb159, 1, none⟩) (Kd.S_far (p := ⟨gb159, 0, none⟩) (Kd.S_types HO157.out BK159.out (by decide)) (fun _ hk => hk.2) (.int .i64 t153)) (fun _ hk => hk.2) (.int .i64 t154)) (fun _ hk => hk.2) (.slice Ao14 t155.length co14)) (fun _ hk => ⟨hk.1.2, hk.1.1.2⟩)))⟩; have n2_ : Aside0 (w15.heap[gb152]? = some (.cells #[.int .i64 t146, .int .i64 t147, .slice Ao8 t148.length co8] 33 (0, 0))) := ⟨(by rw [hw]; exact (by (with_reducible repeat (first | refine blk_drewN ?_ _ | refine blk_drew ?_ | refine blk_alloc ?_ _)); refine blk_far ?_ NB152_159.out _; (with_reducible repeat (first | refine blk_drewN ?_ _ | refine blk_drew ?_ | refine blk_alloc ?_ _)); refine blk_far ?_ NB152_159.out _; (with_reducible repeat (first | refine blk_drewN ?_ _ | refine blk_drew ?_ | refine blk_alloc ?_ _)); refine blk_far ?_ NB152_159.out _; (with_reducible repeat (first | refine blk_drewN ?_ _ | refine blk_drew ?_ | refine blk_alloc ?_ _)); exact BK152.out))⟩; have n3_ : Aside0 (w15.heap[gb159]? = some (.cells #[.int .i64 t153, .int .i64 t154, .slice Ao14 t155.length co14] 33 (0, 0))) := ⟨(by rw [hw]; exact (by (with_reducible repeat (first | refine blk_drewN ?_ _ | refine blk_drew ?_ | refine blk_alloc ?_ _)); refine blk_put (cs := #[.int .i64 t153, .int .i64 t154, .slice none 0 0]) ?_ 2 _ rfl; (with_reducible repeat (first | refine blk_drewN ?_ _ | refine blk_drew ?_ | refine blk_alloc ?_ _)); refine blk_put (cs := #[.int .i64 t153, .int .i64 0, .slice none 0 0]) ?_ 1 _ rfl; (with_reducible repeat (first | refine blk_drewN ?_ _ | refine blk_drew ?_ | refine blk_alloc ?_ _)); refine blk_put (cs := #[.int .i64 0, .int .i64 0, .slice none 0 0]) ?_ 0 _ rfl; (with_reducible repeat (first | refine blk_drewN ?_ _ | refine blk_drew ?_ | refine blk_alloc ?_ _)); exact BK159.out))⟩; have n4_ : Aside0 (Below w.heap.size w w15) := ⟨(by rw [hw]; exact Xi)⟩; clear hw; clear HO150; clear HO157; clear BK152; clear BK159; clear HB; have HO150 := n0_; have HO157 := n1_; have BK152 := n2_; have BK159 := n3_; have HB := n4_; clear n0_ n1_ n2_ n3_ n4_))
 (try simp only [XW.q0, XW.q1, XW.q2])
 go_cut [29] (fun v29 wc => ∃ (kq : Nat) (x29_3 : Bool), v29 = .bool x29_3 ∧ Aside0 (laws_FnExactNewDoc.j0 kq a0 t151 x29_3 t146 t147 t148 t153 t154 t155 = some true) ∧ Aside0 (kq ≤ k) ∧ Aside0 (Kd.N k73 73 wc w.heap.size (fun k_ => some k_ ≠ ((.slice Ao14 t155.length co14) : Value).ownBlock ∧ k_ ≠ gb152 ∧ k_ ≠ gb159 ∧ k_ ≠ XR.zlt z1_ k_) (.slice Ao8 t148.length co8) t148) ∧ Aside0 (Kd.S k73 73 wc w.heap.size (fun k_ => some k_ ≠ ((.slice Ao8 t148.length co8) : Value).ownBlock ∧ k_ ≠ XR.zge z1_ k_) (.slice Ao14 t155.length co14) t155) ∧ Aside0 (wc.heap[gb152]? = some (.cells #[.int .i64 t146, .int .i64 t147, (.slice Ao8 t148.length co8)] 33 (0, 0))) ∧ Aside0 (wc.heap[gb159]? = some (.cells #[.int .i64 t153, .int .i64 t154, (.slice Ao14 t155.length co14)] 33 (0, 0))) ∧ Aside0 (Below w.heap.size w wc))
 case first =>
  have H := HC4.out
  clear HC4
  obtain ⟨t160, A16, H⟩ := Xbi H
  (try dsimp only at H)
  by_cases c17 : t160 = true
  ·subst c17
   (first | rw [if_pos rfl] at H | skip)
   have H' := Aside0.mk H
   clear H
   have hnb18 := NB159_152.out
   have hnc18 := NB152_159.out
   obtain ⟨hcz19_0, hcz19_1, hcz19_2⟩ := Xc3 BK159
   obtain ⟨hfz19_0, hfz19_1, hfz19_2⟩ := Xf3 BK159
   obtain ⟨hcz20_0, hcz20_1, hcz20_2⟩ := Xc3 BK152
   obtain ⟨hfz20_0, hfz20_1, hfz20_2⟩ := Xf3 BK152
   go_wp2_with (first | ((with_reducible refine gate_callee (f := 18) rfl ?_); refine Xgo 23 Try.func18 #[.agg #[.int .i64 t153, .int .i64 t154, .slice Ao14 t155.length co14], .agg #[.int .i64 t146, .int .i64 t147, .slice Ao8 t148.length co8]] ?_; (with_reducible refine (laws_eqDoc.calls k t153 t154 _ _ t155 t146 t147 _ _ t148 true _ ?side1 ?side2 ?side3 ?side4 A16.out).mono ?_); (case side1 => repeat (first | exact (Kd.S_reads' HO157.out).2.2 | (with_reducible first | refine Kd.C_alloc ?_ _ | refine Kd.C_drewN ?_ _ | refine Kd.C_drew ?_))); (case side2 => exact (Kd.S_reads' HO157.out).2.1); (case side3 => repeat (first | exact (Kd.N_reads' HO150.out).2.2 | (with_reducible first | refine Kd.C_alloc ?_ _ | refine Kd.C_drewN ?_ _ | refine Kd.C_drew ?_))); (case side4 => exact (Kd.N_reads' HO150.out).2.1); rintro e w21 ⟨rfl, hb⟩; refine ⟨_, rfl, ?_⟩; replace HO150 := Aside0.mk (Kd.N_below (Xq HO150) hb); replace HO157 := Aside0.mk (Kd.S_below (Xq HO157) hb); replace BK152 := Xbb BK152 hb; replace BK159 := Xbb BK159 hb; replace HB := Aside0.mk (below_step Xi hb); clear hb))
   go_meet
   case rel => exact ⟨_, ((t158 != t151)), Xr, H', Xko, ⟨by (with_reducible repeat (first | apply Kd.N_alloc | apply Kd.N_drewN | apply Kd.N_drew)); exact Kd.N_mono HO150.out (fun _ hk => ⟨hk.1, ⟨hk.2.1, ⟨hk.2.2.2, hk.2.2.1⟩⟩⟩)⟩, (Xp' HO157), BK152, BK159, ⟨Xi⟩⟩
  ·replace c17 := Bool.eq_false_iff.mpr c17
   subst c17
   (first | rw [if_neg (show ¬ (false = true) by decide)] at H | skip)
   have H' := Aside0.mk H
   clear H
   have hnb22 := NB159_152.out
   have hnc22 := NB152_159.out
   obtain ⟨hcz23_0, hcz23_1, hcz23_2⟩ := Xc3 BK159
   obtain ⟨hfz23_0, hfz23_1, hfz23_2⟩ := Xf3 BK159
   obtain ⟨hcz24_0, hcz24_1, hcz24_2⟩ := Xc3 BK152
   obtain ⟨hfz24_0, hfz24_1, hfz24_2⟩ := Xf3 BK152
   go_wp2_with (first | ((with_reducible refine gate_callee (f := 18) rfl ?_); refine Xgo 23 Try.func18 #[.agg #[.int .i64 t153, .int .i64 t154, .slice Ao14 t155.length co14], .agg #[.int .i64 t146, .int .i64 t147, .slice Ao8 t148.length co8]] ?_; (with_reducible refine (laws_eqDoc.calls k t153 t154 _ _ t155 t146 t147 _ _ t148 false _ ?side1 ?side2 ?side3 ?side4 A16.out).mono ?_); (case side1 => repeat (first | exact (Kd.S_reads' HO157.out).2.2 | (with_reducible first | refine Kd.C_alloc ?_ _ | refine Kd.C_drewN ?_ _ | refine Kd.C_drew ?_))); (case side2 => exact (Kd.S_reads' HO157.out).2.1); (case side3 => repeat (first | exact (Kd.N_reads' HO150.out).2.2 | (with_reducible first | refine Kd.C_alloc ?_ _ | refine Kd.C_drewN ?_ _ | refine Kd.C_drew ?_))); (case side4 => exact (Kd.N_reads' HO150.out).2.1); rintro e w25 ⟨rfl, hb⟩; refine ⟨_, rfl, ?_⟩; replace HO150 := Aside0.mk (Kd.N_below (Xq HO150) hb); replace HO157 := Aside0.mk (Kd.S_below (Xq HO157) hb); replace BK152 := Xbb BK152 hb; replace BK159 := Xbb BK159 hb; replace HB := Aside0.mk (below_step Xi hb); clear hb))
   go_meet
   case rel => exact ⟨_, (true), Xr, H', Xko, ⟨by (with_reducible repeat (first | apply Kd.N_alloc | apply Kd.N_drewN | apply Kd.N_drew)); exact Kd.N_mono HO150.out (fun _ hk => ⟨hk.1, ⟨hk.2.1, ⟨hk.2.2.2, hk.2.2.1⟩⟩⟩)⟩, (Xp' HO157), BK152, BK159, ⟨Xi⟩⟩
 case rest =>
  clear HC4
  (try clear hcz13_0); (try clear hcz13_1); (try clear hcz13_2); (try clear hcz7_0); (try clear hcz7_1); (try clear hcz7_2); (try clear hfz13_0); (try clear hfz13_1); (try clear hfz13_2); (try clear hfz7_0); (try clear hfz7_1); (try clear hfz7_2)
  obtain ⟨kq, x29_3, rfl, HA, HJ3, HO_153002, HO_160002, BK152, BK159, HB⟩ := hcut
  cases kq with
  | zero => cases HA.out
  | succ kj3 =>
   have H := HA.out
   clear HA
   simp only [laws_FnExactNewDoc.j0] at H
   by_cases c26 : x29_3 = true
   ·subst c26
    (first | rw [if_pos rfl] at H | skip)
    cases H
   ·replace c26 := Bool.eq_false_iff.mpr c26
    subst c26
    (first | rw [if_neg (show ¬ (false = true) by decide)] at H | skip)
    replace H := Option.bind_eq_some_iff.mp H
    obtain ⟨⟨t161, t162⟩, A270, H⟩ := H
    (try dsimp only at H)
    have A27 := Aside0.mk A270
    clear A270
    obtain ⟨t163, A28, H⟩ := Xbi H
    (try dsimp only at H)
    have HC29 := Aside0.mk H
    clear H
    have hnb30 := NB159_152.out
    have hnc30 := NB152_159.out
    obtain ⟨hcz31_0, hcz31_1, hcz31_2⟩ := Xc3 BK159
    obtain ⟨hfz31_0, hfz31_1, hfz31_2⟩ := Xf3 BK159
    go_upto_if 37 with (first | ((with_reducible refine gate_callee (f := 19) rfl ?_); refine Xgo 32 Try.func19 #[.agg #[.int .i64 t153, .int .i64 t154, .slice Ao14 t155.length co14], .int .i64 1] ?_; (with_reducible refine (laws_markDoc.calls kj3 t153 t154 (fun k_ => (((some k_ ≠ (.slice Ao8 t148.length co8 : Value).ownBlock ∧ k_ ≠ XR.zge z1_ k_) ∧ k_ ≠ gb152) ∧ k_ ≠ gb159)) (.slice Ao14 t155.length co14) t155 1 t161 t162 w _ ?side1 ?side2 A27.out).mono ?_); (case side1 => exact Xi); (case side2 => (with_reducible repeat (first | apply Kd.S_alloc | apply Kd.S_drewN | apply Kd.S_drew)); exact (Kd.S_types (Kd.S_types HO_160002.out BK152.out (by decide)) BK159.out (by decide))); rintro e w32 ⟨rfl, hy0, hb, hkp⟩; refine ⟨_, rfl, ?_⟩; replace HO_153002 := Aside0.mk (Kd.N_mono (Kd.N_keptB (HO_153002.out) hkp (fun k_ hk_ hs_ => XR.zno (hs_.1.1.2) (hk_.2.2.2))) (fun _ hk_ => hk_.1)); replace HO_160002 := Aside0.mk (hy0); replace BK152 := Aside0.mk (blk_kept BK152.out hkp (fun hs_ => (hs_.1.2) rfl)); replace BK159 := Aside0.mk (blk_kept BK159.out hkp (fun hs_ => (hs_.2) rfl)); replace HB := Aside0.mk (hb); (try clear hb); (try clear hkp); (try clear hy0); obtain ⟨hcz33_0, hcz33_1, hcz33_2⟩ := Xc3 BK159; obtain ⟨hfz33_0, hfz33_1, hfz33_2⟩ := Xf3 BK159) | ((with_reducible refine gate_callee (f := 27) rfl ?_); refine goesL_ (some 35) rfl rfl Try.func27 (by kernel_rfl) rfl #[.agg #[.int .i64 t153, .int .i64 t154, .slice Ao14 t162.length co14], .int .i64 1] rfl (by (try simp only [List.map_toArray, List.map_cons, List.map_nil]); first | done | (rw [show t162.length = t155.length from (Kd.S_reads' HO_160002.out).1.symm] <;> rfl) | rfl | (simp only [List.length_drop, List.length_take]; rfl)) ?_; (with_reducible refine (laws_heldDoc.calls kj3 t153 t154 _ _ t162 1 t163 _ ?side1 ?side2 A28.out).mono ?_); (case side1 => repeat (first | exact (Kd.S_reads' HO_160002.out).2.2 | (with_reducible first | refine Kd.C_alloc ?_ _ | refine Kd.C_drewN ?_ _ | refine Kd.C_drew ?_))); (case side2 => rw [show t162.length = t155.length from (Kd.S_reads' HO_160002.out).1.symm]; exact (Kd.S_reads' HO_160002.out).2.1); rintro e w34 ⟨rfl, hb⟩; refine ⟨_, rfl, ?_⟩; replace HO_153002 := Aside0.mk (Kd.N_below (Xq HO_153002) hb); replace HO_160002 := Aside0.mk (Kd.S_below (Xq HO_160002) hb); replace BK152 := Xbb BK152 hb; replace BK159 := Xbb BK159 hb; replace HB := Aside0.mk (below_step Xi hb); clear hb))
    have H := HC29.out
    clear HC29
    obtain ⟨c35b0, H⟩ | ⟨c35b0, H⟩ := Xit H
    ·(first | rw [c35b0] | (simp only [i64_w, i32_w]; rw [c35b0]) | skip)
     cases H
    ·(first | rw [c35b0] | (simp only [i64_w, i32_w]; rw [c35b0]) | skip)
     obtain ⟨c36, H⟩ | ⟨c36, H⟩ := Xiu H
     ·have c36b0 : (t163 == t161) = true := beq_iff_eq.mpr c36
      have c36b1 : (t163 != t161) = false := bne_eq_false_iff_eq.mpr c36
      clear c36
      replace H := Option.bind_eq_some_iff.mp H
      obtain ⟨⟨t164, t165, t166, t169⟩, A370, H⟩ := H
      (try dsimp only at H)
      have A37 := Aside0.mk A370
      clear A370
      have HC38 := Aside0.mk H
      clear H
      go_upto_region 14 with (first | ((with_reducible refine gate_callee (f := 26) rfl ?_); refine Xgo 43 Try.func26 #[.int .i64 a0] ?_; (with_reducible refine (impl_NewDoc.calls a0 t164 t165 t166 t169 _ A37.out).mono ?_); rintro e w39 ⟨v167, rfl, ho0, hb⟩; refine ⟨_, rfl, ?_⟩; obtain ⟨z2_, hzz2_⟩ := XR.zat ho0; have HO168 := Aside0.mk (Kd.S_lower (Kd.S_new' (Kd.S_new' (XR.S_newZ ho0 hzz2_) (Kd.N_lt (Xq HO_153002))) (Kd.S_lt (Xq HO_160002))) (below_size Xi)); replace HO_153002 := Aside0.mk (XR.N_elderZ (Xq HO_153002) (Kd.S_base ho0) hb hzz2_); replace HO_160002 := Aside0.mk (XR.S_elderZ (Xq HO_160002) (Kd.S_base ho0) hb hzz2_); replace BK152 := Xbb BK152 hb; replace BK159 := Xbb BK159 hb; replace HB := Aside0.mk (below_step Xi hb); clear hb; (try clear ho0); (try clear hzz2_)) | ((with_reducible refine gate_dst (N := 9) rfl ?_); refine Xbox 9 #[.int .i64 0, .int .i64 0, .slice none 0 0] 33 ?_; intro gb170 hg w40 hbox hb; replace HO_153002 := Aside0.mk (Kd.N_below (Kd.N_elderB (Xq HO_153002) gb170 (Nat.le_of_eq hg.symm)) hb); replace HO_160002 := Aside0.mk (Kd.S_below (Xq HO_160002) hb); replace HO168 := Aside0.mk (Kd.S_below (Xq HO168) hb); have BK170 := Aside0.mk (hbox); have GE170 := Xge hg Xi; replace HB := Aside0.mk (below_step Xi hb); have NB152_170 := Xnb hg BK152; have NB170_152 := Xns NB152_170; replace BK152 := Xbb BK152 hb; have NB159_170 := Xnb hg BK159; have NB170_159 := Xns NB159_170; replace BK159 := Xbb BK159 hb; clear hb hbox hg; have hnb41 := NB170_152.out; have hnc41 := NB152_170.out; have hnb42 := NB170_159.out; have hnc42 := NB159_170.out; obtain ⟨hcz43_0, hcz43_1, hcz43_2⟩ := Xc3 BK170; obtain ⟨hfz43_0, hfz43_1, hfz43_2⟩ := Xf3 BK170; obtain ⟨Ao44, co44, eo44⟩ := Kd.S_slice HO168.out; subst eo44) | ((with_reducible refine gate_store (t := 33) (p := 9) rfl ?_); refine store_event (t := 33) (p := 9) (v := ?vo_w45) (w1 := (((w40.setCell ⟨gb170, 0, none⟩ (.int .i64 t164)).setCell ⟨gb170, 1, none⟩ (.int .i64 t165)).setCell ⟨gb170, 2, none⟩ (.slice Ao44 t166.length co44))) ?hg ?ho ?hn ?hr ?_; (case ho => rfl); (case hg => rfl); (case hn => rfl); (case hr => first | (go_simp; done) | (go_simp; rfl)); intro w45 hw; have n0_ : Aside0 (Kd.N k73 73 w45 w.heap.size (fun k_ => some k_ ≠ (.slice Ao14 t155.length co14 : Value).ownBlock ∧ some k_ ≠ (.slice Ao44 t166.length co44 : Value).ownBlock ∧ k_ ≠ gb152 ∧ k_ ≠ gb159 ∧ k_ ≠ XR.zlt z1_ k_ ∧ k_ ≠ XR.zlt z2_ k_ ∧ k_ ≠ gb170) (.slice Ao8 t148.length co8) t148) := ⟨(by rw [hw]; exact (by (with_reducible repeat (first | apply Kd.N_alloc | apply Kd.N_drewN | apply Kd.N_drew)); exact Kd.N_mono (Kd.N_far (p := ⟨gb170, 2, none⟩) (Kd.N_far (p := ⟨gb170, 1, none⟩) (Kd.N_far (p := ⟨gb170, 0, none⟩) (Kd.N_mono HO_153002.out (fun k_ hk => (⟨hk, hk.2⟩ : _ ∧ k_ ≠ gb170))) (fun _ hk => hk.2) (.int .i64 t164)) (fun _ hk => hk.2) (.int .i64 t165)) (fun _ hk => hk.2) (.slice Ao44 t166.length co44)) (fun _ hk => ⟨hk.1.1.1.1.1, ⟨hk.1.1.1.2, ⟨hk.1.1.1.1.2.1, ⟨hk.1.1.1.1.2.2.1, ⟨hk.1.1.1.1.2.2.2, ⟨hk.1.1.2, hk.1.2⟩⟩⟩⟩⟩⟩)))⟩; have n1_ : Aside0 (Kd.S k73 73 w45 w.heap.size (fun k_ => some k_ ≠ (.slice Ao8 t148.length co8 : Value).ownBlock ∧ some k_ ≠ (.slice Ao44 t166.length co44 : Value).ownBlock ∧ k_ ≠ XR.zge z1_ k_ ∧ k_ ≠ gb152 ∧ k_ ≠ gb159 ∧ k_ ≠ XR.zlt z2_ k_) (.slice Ao14 t155.length co14) t162) := ⟨(by rw [hw]; exact (by (with_reducible repeat (first | apply Kd.S_alloc | apply Kd.S_drewN | apply Kd.S_drew)); exact Kd.S_mono (Kd.S_far (p := ⟨gb170, 2, none⟩) (Kd.S_far (p := ⟨gb170, 1, none⟩) (Kd.S_far (p := ⟨gb170, 0, none⟩) (Kd.S_types HO_160002.out BK170.out (by decide)) (fun _ hk => hk.2) (.int .i64 t164)) (fun _ hk => hk.2) (.int .i64 t165)) (fun _ hk => hk.2) (.slice Ao44 t166.length co44)) (fun _ hk => ⟨hk.1.1.1.1.1.1, ⟨hk.1.1.2, ⟨hk.1.1.1.1.1.2, ⟨hk.1.1.1.1.2, ⟨hk.1.1.1.2, hk.1.2⟩⟩⟩⟩⟩)))⟩; have n2_ : Aside0 (Kd.S k73 73 w45 w.heap.size (fun k_ => some k_ ≠ (.slice Ao8 t148.length co8 : Value).ownBlock ∧ some k_ ≠ (.slice Ao14 t155.length co14 : Value).ownBlock ∧ k_ ≠ XR.zge z2_ k_) (.slice Ao44 t166.length co44) t166) := ⟨(by rw [hw]; exact (by (with_reducible repeat (first | apply Kd.S_alloc | apply Kd.S_drewN | apply Kd.S_drew)); exact Kd.S_mono (Kd.S_far (p := ⟨gb170, 2, none⟩) (Kd.S_far (p := ⟨gb170, 1, none⟩) (Kd.S_far (p := ⟨gb170, 0, none⟩) (Kd.S_types HO168.out BK170.out (by decide)) (fun _ hk => hk.2) (.int .i64 t164)) (fun _ hk => hk.2) (.int .i64 t165)) (fun _ hk => hk.2) (.slice Ao44 t166.length co44)) (fun _ hk => ⟨hk.1.1.2, ⟨hk.1.2, hk.1.1.1.2⟩⟩)))⟩; have n3_ : Aside0 (w45.heap[gb152]? = some (.cells #[.int .i64 t146, .int .i64 t147, .slice Ao8 t148.length co8] 33 (0, 0))) := ⟨(by rw [hw]; exact (by (with_reducible repeat (first | refine blk_drewN ?_ _ | refine blk_drew ?_ | refine blk_alloc ?_ _)); refine blk_far ?_ NB152_170.out _; (with_reducible repeat (first | refine blk_drewN ?_ _ | refine blk_drew ?_ | refine blk_alloc ?_ _)); refine blk_far ?_ NB152_170.out _; (with_reducible repeat (first | refine blk_drewN ?_ _ | refine blk_drew ?_ | refine blk_alloc ?_ _)); refine blk_far ?_ NB152_170.out _; (with_reducible repeat (first | refine blk_drewN ?_ _ | refine blk_drew ?_ | refine blk_alloc ?_ _)); exact BK152.out))⟩; have n4_ : Aside0 (w45.heap[gb159]? = some (.cells #[.int .i64 t153, .int .i64 t154, .slice Ao14 t155.length co14] 33 (0, 0))) := ⟨(by rw [hw]; exact (by (with_reducible repeat (first | refine blk_drewN ?_ _ | refine blk_drew ?_ | refine blk_alloc ?_ _)); refine blk_far ?_ NB159_170.out _; (with_reducible repeat (first | refine blk_drewN ?_ _ | refine blk_drew ?_ | refine blk_alloc ?_ _)); refine blk_far ?_ NB159_170.out _; (with_reducible repeat (first | refine blk_drewN ?_ _ | refine blk_drew ?_ | refine blk_alloc ?_ _)); refine blk_far ?_ NB159_170.out _; (with_reducible repeat (first | refine blk_drewN ?_ _ | refine blk_drew ?_ | refine blk_alloc ?_ _)); exact BK159.out))⟩; have n5_ : Aside0 (w45.heap[gb170]? = some (.cells #[.int .i64 t164, .int .i64 t165, .slice Ao44 t166.length co44] 33 (0, 0))) := ⟨(by rw [hw]; exact (by (with_reducible repeat (first | refine blk_drewN ?_ _ | refine blk_drew ?_ | refine blk_alloc ?_ _)); refine blk_put (cs := #[.int .i64 t164, .int .i64 t165, .slice none 0 0]) ?_ 2 _ rfl; (with_reducible repeat (first | refine blk_drewN ?_ _ | refine blk_drew ?_ | refine blk_alloc ?_ _)); refine blk_put (cs := #[.int .i64 t164, .int .i64 0, .slice none 0 0]) ?_ 1 _ rfl; (with_reducible repeat (first | refine blk_drewN ?_ _ | refine blk_drew ?_ | refine blk_alloc ?_ _)); refine blk_put (cs := #[.int .i64 0, .int .i64 0, .slice none 0 0]) ?_ 0 _ rfl; (with_reducible repeat (first | refine blk_drewN ?_ _ | refine blk_drew ?_ | refine blk_alloc ?_ _)); exact BK170.out))⟩; have n6_ : Aside0 (Below w.heap.size w w45) := ⟨(by rw [hw]; exact Xi)⟩; clear hw; clear HO_153002; clear HO_160002; clear HO168; clear BK152; clear BK159; clear BK170; clear HB; have HO_153002 := n0_; have HO_160002 := n1_; have HO168 := n2_; have BK152 := n3_; have BK159 := n4_; have BK170 := n5_; have HB := n6_; clear n0_ n1_ n2_ n3_ n4_ n5_ n6_))
      (try simp only [XW.q0, XW.q1, XW.q2])
      go_cut [54] (fun v54 wc => ∃ (kq : Nat) (x54_37 : Bool), v54 = .bool x54_37 ∧ Aside0 (laws_FnExactNewDoc.j1 kq t161 x54_37 t153 t154 t162 = some true) ∧ Aside0 (kq ≤ kj3) ∧ Aside0 (Kd.N k73 73 wc w.heap.size (fun k_ => some k_ ≠ ((.slice Ao14 t155.length co14) : Value).ownBlock ∧ some k_ ≠ ((.slice Ao44 t166.length co44) : Value).ownBlock ∧ k_ ≠ gb152 ∧ k_ ≠ gb159 ∧ k_ ≠ gb170 ∧ k_ ≠ XR.zlt z1_ k_ ∧ k_ ≠ XR.zlt z2_ k_) (.slice Ao8 t148.length co8) t148) ∧ Aside0 (Kd.S k73 73 wc w.heap.size (fun k_ => some k_ ≠ ((.slice Ao8 t148.length co8) : Value).ownBlock ∧ some k_ ≠ ((.slice Ao44 t166.length co44) : Value).ownBlock ∧ k_ ≠ XR.zge z1_ k_ ∧ k_ ≠ XR.zlt z2_ k_) (.slice Ao14 t155.length co14) t162) ∧ Aside0 (Kd.S k73 73 wc w.heap.size (fun k_ => some k_ ≠ ((.slice Ao8 t148.length co8) : Value).ownBlock ∧ some k_ ≠ ((.slice Ao14 t155.length co14) : Value).ownBlock ∧ k_ ≠ XR.zge z2_ k_) (.slice Ao44 t166.length co44) t166) ∧ Aside0 (wc.heap[gb152]? = some (.cells #[.int .i64 t146, .int .i64 t147, (.slice Ao8 t148.length co8)] 33 (0, 0))) ∧ Aside0 (wc.heap[gb159]? = some (.cells #[.int .i64 t153, .int .i64 t154, (.slice Ao14 t155.length co14)] 33 (0, 0))) ∧ Aside0 (wc.heap[gb170]? = some (.cells #[.int .i64 t164, .int .i64 t165, (.slice Ao44 t166.length co44)] 33 (0, 0))) ∧ Aside0 (Below w.heap.size w wc))
      case first =>
       have H := HC38.out
       clear HC38
       obtain ⟨t171, A46, H⟩ := Xbi H
       (try dsimp only at H)
       by_cases c47 : t171 = true
       ·subst c47
        (first | rw [if_pos rfl] at H | skip)
        have H' := Aside0.mk H
        clear H
        have hnb48 := NB170_152.out
        have hnc48 := NB152_170.out
        have hnb49 := NB170_159.out
        have hnc49 := NB159_170.out
        obtain ⟨hcz50_0, hcz50_1, hcz50_2⟩ := Xc3 BK170
        obtain ⟨hfz50_0, hfz50_1, hfz50_2⟩ := Xf3 BK170
        have hnb51 := NB152_159.out
        have hnc51 := NB159_152.out
        obtain ⟨hcz52_0, hcz52_1, hcz52_2⟩ := Xc3 BK152
        obtain ⟨hfz52_0, hfz52_1, hfz52_2⟩ := Xf3 BK152
        go_wp2_with (first | ((with_reducible refine gate_callee (f := 18) rfl ?_); refine Xgo 48 Try.func18 #[.agg #[.int .i64 t164, .int .i64 t165, .slice Ao44 t166.length co44], .agg #[.int .i64 t146, .int .i64 t147, .slice Ao8 t148.length co8]] ?_; (with_reducible refine (laws_eqDoc.calls kj3 t164 t165 _ _ t166 t146 t147 _ _ t148 true _ ?side1 ?side2 ?side3 ?side4 A46.out).mono ?_); (case side1 => repeat (first | exact (Kd.S_reads' HO168.out).2.2 | (with_reducible first | refine Kd.C_alloc ?_ _ | refine Kd.C_drewN ?_ _ | refine Kd.C_drew ?_))); (case side2 => exact (Kd.S_reads' HO168.out).2.1); (case side3 => repeat (first | exact (Kd.N_reads' HO_153002.out).2.2 | (with_reducible first | refine Kd.C_alloc ?_ _ | refine Kd.C_drewN ?_ _ | refine Kd.C_drew ?_))); (case side4 => exact (Kd.N_reads' HO_153002.out).2.1); rintro e w53 ⟨rfl, hb⟩; refine ⟨_, rfl, ?_⟩; replace HO_153002 := Aside0.mk (Kd.N_below (Xq HO_153002) hb); replace HO_160002 := Aside0.mk (Kd.S_below (Xq HO_160002) hb); replace HO168 := Aside0.mk (Kd.S_below (Xq HO168) hb); replace BK152 := Xbb BK152 hb; replace BK159 := Xbb BK159 hb; replace BK170 := Xbb BK170 hb; replace HB := Aside0.mk (below_step Xi hb); clear hb))
        go_meet
        case rel => exact ⟨_, ((t169 != t151)), Xr, H', ⟨by have := HJ3.out; first | omega | exact Nat.le_refl _⟩, ⟨by (with_reducible repeat (first | apply Kd.N_alloc | apply Kd.N_drewN | apply Kd.N_drew)); exact Kd.N_mono HO_153002.out (fun _ hk => ⟨hk.1, ⟨hk.2.1, ⟨hk.2.2.1, ⟨hk.2.2.2.1, ⟨hk.2.2.2.2.2.2, ⟨hk.2.2.2.2.1, hk.2.2.2.2.2.1⟩⟩⟩⟩⟩⟩)⟩, ⟨by (with_reducible repeat (first | apply Kd.S_alloc | apply Kd.S_drewN | apply Kd.S_drew)); exact Kd.S_mono HO_160002.out (fun _ hk => ⟨hk.1, ⟨hk.2.1, ⟨hk.2.2.1, hk.2.2.2.2.2⟩⟩⟩)⟩, (Xp' HO168), BK152, BK159, BK170, ⟨Xi⟩⟩
       ·replace c47 := Bool.eq_false_iff.mpr c47
        subst c47
        (first | rw [if_neg (show ¬ (false = true) by decide)] at H | skip)
        have H' := Aside0.mk H
        clear H
        have hnb54 := NB170_152.out
        have hnc54 := NB152_170.out
        have hnb55 := NB170_159.out
        have hnc55 := NB159_170.out
        obtain ⟨hcz56_0, hcz56_1, hcz56_2⟩ := Xc3 BK170
        obtain ⟨hfz56_0, hfz56_1, hfz56_2⟩ := Xf3 BK170
        have hnb57 := NB152_159.out
        have hnc57 := NB159_152.out
        obtain ⟨hcz58_0, hcz58_1, hcz58_2⟩ := Xc3 BK152
        obtain ⟨hfz58_0, hfz58_1, hfz58_2⟩ := Xf3 BK152
        go_wp2_with (first | ((with_reducible refine gate_callee (f := 18) rfl ?_); refine Xgo 48 Try.func18 #[.agg #[.int .i64 t164, .int .i64 t165, .slice Ao44 t166.length co44], .agg #[.int .i64 t146, .int .i64 t147, .slice Ao8 t148.length co8]] ?_; (with_reducible refine (laws_eqDoc.calls kj3 t164 t165 _ _ t166 t146 t147 _ _ t148 false _ ?side1 ?side2 ?side3 ?side4 A46.out).mono ?_); (case side1 => repeat (first | exact (Kd.S_reads' HO168.out).2.2 | (with_reducible first | refine Kd.C_alloc ?_ _ | refine Kd.C_drewN ?_ _ | refine Kd.C_drew ?_))); (case side2 => exact (Kd.S_reads' HO168.out).2.1); (case side3 => repeat (first | exact (Kd.N_reads' HO_153002.out).2.2 | (with_reducible first | refine Kd.C_alloc ?_ _ | refine Kd.C_drewN ?_ _ | refine Kd.C_drew ?_))); (case side4 => exact (Kd.N_reads' HO_153002.out).2.1); rintro e w59 ⟨rfl, hb⟩; refine ⟨_, rfl, ?_⟩; replace HO_153002 := Aside0.mk (Kd.N_below (Xq HO_153002) hb); replace HO_160002 := Aside0.mk (Kd.S_below (Xq HO_160002) hb); replace HO168 := Aside0.mk (Kd.S_below (Xq HO168) hb); replace BK152 := Xbb BK152 hb; replace BK159 := Xbb BK159 hb; replace BK170 := Xbb BK170 hb; replace HB := Aside0.mk (below_step Xi hb); clear hb))
        go_meet
        case rel => exact ⟨_, (true), Xr, H', ⟨by have := HJ3.out; first | omega | exact Nat.le_refl _⟩, ⟨by (with_reducible repeat (first | apply Kd.N_alloc | apply Kd.N_drewN | apply Kd.N_drew)); exact Kd.N_mono HO_153002.out (fun _ hk => ⟨hk.1, ⟨hk.2.1, ⟨hk.2.2.1, ⟨hk.2.2.2.1, ⟨hk.2.2.2.2.2.2, ⟨hk.2.2.2.2.1, hk.2.2.2.2.2.1⟩⟩⟩⟩⟩⟩)⟩, ⟨by (with_reducible repeat (first | apply Kd.S_alloc | apply Kd.S_drewN | apply Kd.S_drew)); exact Kd.S_mono HO_160002.out (fun _ hk => ⟨hk.1, ⟨hk.2.1, ⟨hk.2.2.1, hk.2.2.2.2.2⟩⟩⟩)⟩, (Xp' HO168), BK152, BK159, BK170, ⟨Xi⟩⟩
      case rest =>
       clear HC38
       (try clear c26); (try clear c35); (try clear c35b0); (try clear c36); (try clear c36b0); (try clear c36b1); (try clear hcz13_0); (try clear hcz13_1); (try clear hcz13_2); (try clear hcz31_0); (try clear hcz31_1); (try clear hcz31_2); (try clear hcz33_0); (try clear hcz33_1); (try clear hcz33_2); (try clear hcz43_0); (try clear hcz43_1); (try clear hcz43_2); (try clear hcz7_0); (try clear hcz7_1); (try clear hcz7_2); (try clear hfz13_0); (try clear hfz13_1); (try clear hfz13_2); (try clear hfz31_0); (try clear hfz31_1); (try clear hfz31_2); (try clear hfz33_0); (try clear hfz33_1); (try clear hfz33_2); (try clear hfz43_0); (try clear hfz43_1); (try clear hfz43_2); (try clear hfz7_0); (try clear hfz7_1); (try clear hfz7_2)
       obtain ⟨kq, x54_37, rfl, HA, HJ37, HO_153002, HO_160002, HO_171002, BK152, BK159, BK170, HB⟩ := hcut
       have hl160002_37 := (Kd.S_reads' HO_160002.out).1
       rw [hl160002_37] at HO_160002
       (try simp only [hl160002_37])
       (try simp only [hl160002_37] at BK152)
       (try simp only [hl160002_37] at BK159)
       (try simp only [hl160002_37] at BK170)
       (try simp only [hl160002_37] at HO_153002)
       (try simp only [hl160002_37] at HO_171002)
       cases kq with
       | zero => cases HA.out
       | succ kj37 =>
        have H := HA.out
        clear HA
        simp only [laws_FnExactNewDoc.j1] at H
        by_cases c60 : x54_37 = true
        ·subst c60
         (first | rw [if_pos rfl] at H | skip)
         cases H
        ·replace c60 := Bool.eq_false_iff.mpr c60
         subst c60
         (first | rw [if_neg (show ¬ (false = true) by decide)] at H | skip)
         obtain ⟨t172, A61, H⟩ := Xbi H
         (try dsimp only at H)
         have HC62 := Aside0.mk H
         clear H
         have hnb63 := NB159_152.out
         have hnc63 := NB152_159.out
         have hnb64 := NB159_170.out
         have hnc64 := NB170_159.out
         obtain ⟨hcz65_0, hcz65_1, hcz65_2⟩ := Xc3 BK159
         obtain ⟨hfz65_0, hfz65_1, hfz65_2⟩ := Xf3 BK159
         go_upto_if 59 with (first | ((with_reducible refine gate_callee (f := 27) rfl ?_); refine Xgo 57 Try.func27 #[.agg #[.int .i64 t153, .int .i64 t154, .slice Ao14 t162.length co14], .int .i64 1] ?_; (with_reducible refine (laws_heldDoc.calls kj37 t153 t154 _ _ t162 1 t172 _ ?side1 ?side2 A61.out).mono ?_); (case side1 => repeat (first | exact (Kd.S_reads' HO_160002.out).2.2 | (with_reducible first | refine Kd.C_alloc ?_ _ | refine Kd.C_drewN ?_ _ | refine Kd.C_drew ?_))); (case side2 => exact (Kd.S_reads' HO_160002.out).2.1); rintro e w66 ⟨rfl, hb⟩; refine ⟨_, rfl, ?_⟩; replace HO_153002 := Aside0.mk (Kd.N_below (Xq HO_153002) hb); replace HO_160002 := Aside0.mk (Kd.S_below (Xq HO_160002) hb); replace HO_171002 := Aside0.mk (Kd.S_below (Xq HO_171002) hb); replace BK152 := Xbb BK152 hb; replace BK159 := Xbb BK159 hb; replace BK170 := Xbb BK170 hb; replace HB := Aside0.mk (below_step Xi hb); clear hb))
         have H := HC62.out
         clear HC62
         obtain ⟨c67b0, H⟩ | ⟨c67b0, H⟩ := Xit H
         ·(first | rw [c67b0] | (simp only [i64_w, i32_w]; rw [c67b0]) | skip)
          cases H
         ·(first | rw [c67b0] | (simp only [i64_w, i32_w]; rw [c67b0]) | skip)
          obtain ⟨c68, H⟩ | ⟨c68, H⟩ := Xiu H
          ·have c68b0 : (t172 == t161) = true := beq_iff_eq.mpr c68
           have c68b1 : (t172 != t161) = false := bne_eq_false_iff_eq.mpr c68
           clear c68
           go_wp2
           go_ret
           exact ⟨Xe, Xi⟩
          ·have c68b0 : (t172 == t161) = false := beq_eq_false_iff_ne.mpr c68
           have c68b1 : (t172 != t161) = true := bne_iff_ne.mpr c68
           cases H
     ·have c36b0 : (t163 == t161) = false := beq_eq_false_iff_ne.mpr c36
      have c36b1 : (t163 != t161) = true := bne_iff_ne.mpr c36
      cases H

end Go.Proofs.Ytahhgjkgfbppeaa.XA
