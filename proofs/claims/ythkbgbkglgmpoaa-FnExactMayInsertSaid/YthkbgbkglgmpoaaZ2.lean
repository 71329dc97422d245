/- Words and contracts of this claim, put together out of several texts by a program of this session's. Conditions: each theorem's own premises. -/
import Derived.Test.YthkbgbkglgmpoaaZ1
namespace Go.Proofs.Ythkbgbkglgmpoaa.XA
open Go.RowKit Go.Proofs.YthkbgbkglgmpoaaW.PrintWords Go.Proofs.YthkbgbkglgmpoaaW.PrintLast Go.Proofs.YthkbgbkglgmpoaaW.PrintMore XW
attribute [local go_sem] max2_int min2_int max_two min_two max_three min_three max_four min_four   -- for this text's walks alone
set_option linter.unusedVariables false
set_option linter.unusedSimpArgs false
set_option maxHeartbeats 8000000
set_option maxRecDepth 100000
mutual
def spec_l02Nodes.l0 : Nat → List Int → Int → Int → Int → List (S103) → Option (Bool)
 | 0, _, _, _, _, _ => none
 | k + 1, x3, x4, x193000, x193001, x193002 => if x4 < (x193002.length : Int) then (if 0 ≤ x4 then ((spec_l02Node.f ((rd_T103 x193002 x4).f0) ((rd_T103 x193002 x4).f1) ((rd_T103 x193002 x4).f2) ((rd_T103 x193002 x4).f3) ((rd_T103 x193002 x4).f4) x193001).bind fun t199 => (if t199 = true then (if x4 > 0 then (if 0 ≤ (wrap64 (x4 - 1)) then (if (wrap64 (x4 - 1)) < (x193002.length : Int) then (spec_l02Nodes.j1 k x3 x4 (decide (((rd_T103 x193002 x4).f0) ≤ ((rd_T103 x193002 (wrap64 (x4 - 1))).f0))) x193000 x193001 x193002 ((rd_T103 x193002 x4).f0) ((rd_T103 x193002 x4).f1) ((rd_T103 x193002 x4).f2) ((rd_T103 x193002 x4).f3) ((rd_T103 x193002 x4).f4)) else (none)) else (none)) else (spec_l02Nodes.j1 k x3 x4 false x193000 x193001 x193002 ((rd_T103 x193002 x4).f0) ((rd_T103 x193002 x4).f1) ((rd_T103 x193002 x4).f2) ((rd_T103 x193002 x4).f3) ((rd_T103 x193002 x4).f4))) else (spec_l02Nodes.j1 k x3 x4 true x193000 x193001 x193002 ((rd_T103 x193002 x4).f0) ((rd_T103 x193002 x4).f1) ((rd_T103 x193002 x4).f2) ((rd_T103 x193002 x4).f3) ((rd_T103 x193002 x4).f4)))) else (none)) else (if (x3.length : Int) = (wrap64 ((x193002.length : Int) - 1)) then ((spec_l02At.f k x193000 x193001 x193002 x193000).bind fun t196 => (some (decide (t196 ≥ 0)))) else (some false))
def spec_l02Nodes.j1 : Nat → List Int → Int → Bool → Int → Int → List (S103) → Int → Int → Int → ByteArray → List Int → Option (Bool)
 | 0, _, _, _, _, _, _, _, _, _, _, _ => none
 | k + 1, x3, x4, x40, x193000, x193001, x193002, x199000, x199001, x199002, x199003, x199004 => if x40 = true then (some false) else (spec_l02Nodes.l1 k x3 x4 0 x193000 x193001 x193002 x199000 x199001 x199002 x199003 x199004)
def spec_l02Nodes.l1 : Nat → List Int → Int → Int → Int → Int → List (S103) → Int → Int → Int → ByteArray → List Int → Option (Bool)
 | 0, _, _, _, _, _, _, _, _, _, _, _ => none
 | k + 1, x3, x4, x6, x193000, x193001, x193002, x199000, x199001, x199002, x199003, x199004 => if x6 < (x199004.length : Int) then (if 0 ≤ x6 then (if (rd x199004 x6) = x193000 then (some false) else ((spec_l02Has.f k x3 (rd x199004 x6)).bind fun t203 => (if t203 = true then (some false) else ((spec_l02At.f k x193000 x193001 x193002 (rd x199004 x6)).bind fun t205 => (if t205 < 0 then (some false) else (if x3.length < 17592186044416 then (spec_l02Nodes.l1 k (x3 ++ [rd x199004 x6]) x4 (wrap64 (x6 + 1)) x193000 x193001 x193002 x199000 x199001 x199002 x199003 x199004) else (none))))))) else (none)) else (spec_l02Nodes.l0 k x3 (wrap64 (x4 + 1)) x193000 x193001 x193002)
end
def spec_l02Nodes.f (k : Nat) (a0_0 : Int) (a0_1 : Int) (l0_2 : List (S103)) : Option (Bool) := spec_l02Nodes.l0 k (([] : List Int)) 0 a0_0 a0_1 l0_2
def spec_l02Nodes.T6 : Bool × List (List Nat × List Nat) := (true, [([], []), ([], []), ([1], [1]), ([0, 2], [0, 2]), ([3], [3]), ([4, 3], [4]), ([5], [5]), ([6, 5], [5, 6]), ([7, 5, 5], [5, 7]), ([8], [8]), ([9, 8], [8, 9]), ([8], [8]), ([11, 8], [8, 11]), ([8], [8]), ([13, 8], [8, 13]), ([12, 14, 8], [8, 12, 14]), ([15, 8], [8, 15]), ([16, 8], [8, 16]), ([10, 17, 8], [8, 10, 17]), ([8, 18, 5], [5, 8, 18]), ([5, 19], [5, 19])])
def spec_l02Nodes.B6 : List Nat := [0, 0, 2, 7, 15, 31, 63, 127, 255, 511, 1023, 511, 2559, 511, 8703, 31231, 63999, 129535, 262143, 524287, 1048575]
theorem spec_l02Nodes.tab6 : rtab .any (opsOf Try.f127 6) = spec_l02Nodes.T6 := by kernel_rfl
theorem spec_l02Nodes.bits6 : waitsOk spec_l02Nodes.T6.2 spec_l02Nodes.B6 = true := by kernel_rfl
def spec_l02Nodes.T11 : Bool × List (List Nat × List Nat) := (true, [([], []), ([0], [0]), ([], []), ([1, 2], [1, 2]), ([3], [3]), ([], []), ([5], [5]), ([4, 6], [4, 6]), ([7], [7]), ([8], [8]), ([8], [8]), ([10, 8], [8, 10]), ([8], [8]), ([11, 12, 8], [8, 11, 12]), ([13, 8], [8, 13]), ([9, 14, 8, 8], [8, 9, 14]), ([8, 15], [8, 15]), ([16, 15], [16]), ([17], [17]), ([17], [17]), ([19, 17], [17, 19]), ([17], [17]), ([20, 21, 17], [17, 20, 21]), ([22, 17], [17, 22]), ([18, 23, 17, 17], [17, 18, 23]), ([24, 17], [17, 24]), ([17, 25], [17, 25])])
def spec_l02Nodes.B11 : List Nat := [0, 1, 0, 7, 15, 0, 32, 127, 255, 511, 511, 1535, 511, 7679, 15871, 32767, 65535, 131071, 262143, 262143, 786431, 262143, 3932159, 8126463, 16777215, 33554431, 67108863]
theorem spec_l02Nodes.tab11 : rtab .any (opsOf Try.f127 11) = spec_l02Nodes.T11 := by kernel_rfl
theorem spec_l02Nodes.bits11 : waitsOk spec_l02Nodes.T11.2 spec_l02Nodes.B11 = true := by kernel_rfl
theorem spec_l02Nodes.calls (k : Nat) (a0_0 : Int) (a0_1 : Int) (A0_2 : Option Addr) (c0_2 : Nat) (l0_2 : List (S103)) (r : Bool) (w : World) (hr0_2 : Kd.C k103 w A0_2 l0_2.length l0_2) (hc0_2 : l0_2.length ≤ c0_2) (h : spec_l02Nodes.f k a0_0 a0_1 l0_2 = some r) :
  Calls Try.prog 127 #[.agg #[.int .i64 a0_0, .int .i64 a0_1, .slice A0_2 l0_2.length c0_2]] w fun e w' => e = .returned (.bool r) ∧ Below w.heap.size w w' := by
 have hu65 := Try.underlying65
 have hu103 := Try.underlying103
 have HR0_2 := Aside0.mk hr0_2
 have HC0_2 := Aside0.mk hc0_2
 clear hr0_2 hc0_2
 have HB := Aside0.mk (Below.refl w.heap.size w)
 have H : (spec_l02Nodes.l0 k (([] : List Int)) 0 a0_0 a0_1 l0_2) = some r := h
 clear h
 obtain ⟨y193, hy193⟩ : ∃ y_ : List Int, y_ = (([] : List Int)) := ⟨_, rfl⟩
 replace H : (spec_l02Nodes.l0 k y193 0 a0_0 a0_1 l0_2) = some r := by first | (rw [hy193]; with_reducible exact H) | (have H2_ := (Option.bind_some _ _).symm.trans H; rw [hy193]; with_reducible exact H2_) | (have H2_ := (Option.bind_some _ _).symm.trans H; with_reducible exact H2_) | with_reducible exact H | (rw [hy193]; exact H) | exact H
 have Ny193 := Aside0.mk hy193
 clear hy193
 have H' := Aside0.mk H
 clear H
 go_enter Try.func127, Try.ntmps127
 go_wp2_with (first | ((with_reducible refine gate_dst (N := 1) rfl ?_); refine Xbox 1 #[.int .i64 a0_0, .int .i64 a0_1, .slice A0_2 l0_2.length c0_2] 65 ?_; intro gb192 hg w2 hbox hb; have BK192 := Aside0.mk (hbox); have GE192 := Xge hg Xi; replace HB := Aside0.mk (below_step Xi hb); clear hb hbox hg) | ((with_reducible refine gate_dst (N := 7) rfl ?_); refine Kd.R_lit (Kd.int .i64) _ 3 ?hg (N := 7) ?hd (xs := ([] : List Int)) (inner := []) (ok := fun _ => True) (okp := fun _ => True) ?hr ?hp (fun _ hk => hk) trivial (Below.refl _ _) (Nat.le_refl _) (by simp) ?_; (case hd => rfl); (case hg => rfl); (case hr => first | (go_simp; done) | (go_simp; rfl)); (case hp => exact (Reps.none _ _)); intro v194 w3 ho4 hb hg_ hnew_; clear hg_ hnew_; (first | rw [← Ny193.out] at ho4 | (simp only [Int.reduceToNat] at ho4; rw [← Ny193.out] at ho4)); have HO195 := Aside0.mk (Kd.R_lower ho4 (below_size Xi)); replace BK192 := Xbb BK192 hb; replace HB := Aside0.mk (below_step Xi hb); clear hb ho4))
 go_loopg [3, 4] k (fun kq v3 v4 w' => ∃ (x3_1 : List Int) (x4_1 : Int), v4 = .int .i64 x4_1 ∧ Aside0 (spec_l02Nodes.l0 kq x3_1 x4_1 a0_0 a0_1 l0_2 = some r) ∧ Aside0 (kq ≤ k) ∧ Aside0 (Kd.R (Kd.int .i64) 3 w' w.heap.size (fun _ => True) v3 x3_1) ∧ Aside0 (w'.heap[gb192]? = some (.cells #[.int .i64 a0_0, .int .i64 a0_1, (.slice A0_2 l0_2.length c0_2)] 65 (0, 0))) ∧ Aside0 (Below w.heap.size w w'))
 case atStart => exact ⟨(y193), (0), Xr, H', Xkr, (Xp' HO195), (Xp BK192), ⟨Xi⟩⟩
 clear H'
 obtain ⟨x3_1, x4_1, rfl, HA, HK1, HO_3, BK192, HB⟩ := hrel
 cases gk with | zero => cases HA.out | succ k1 => ?_
 have H := HA.out
 clear HA
 simp only [spec_l02Nodes.l0] at H
 obtain ⟨c5b0, H⟩ | ⟨c5b0, H⟩ := Xit H
 ·obtain ⟨c6b0, H⟩ := Xid H
  have HC7 := Aside0.mk H
  clear H
  obtain ⟨hcz8_0, hcz8_1, hcz8_2⟩ := Xc3 BK192
  obtain ⟨hfz8_0, hfz8_1, hfz8_2⟩ := Xf3 BK192
  obtain ⟨ad197, A197_4, c197_4, e197, p197, q197, hx197_0, hx197_1, hx197_2, hx197_3, hx197_4, HC197_4, HR197_4⟩ := at_B103 HR0_2 x4_1 Xa Xa HB
  cases e197
  go_upto_region 6 with (first | ((with_reducible refine gate_dst (N := 5) rfl ?_); refine Xbox 5 #[.int .i64 0, .int .i64 0, .int .i64 0, .string (⟨#[]⟩ : ByteArray), .slice none 0 0] 103 ?_; intro gb198 hg w9 hbox hb; replace HO_3 := Aside0.mk (Kd.R_below (Xq HO_3) hb); have BK198 := Aside0.mk (hbox); have GE198 := Xge hg Xi; replace HB := Aside0.mk (below_step Xi hb); have NB192_198 := Xnb hg BK192; have NB198_192 := Xns NB192_198; replace BK192 := Xbb BK192 hb; clear hb hbox hg; have hnb10 := NB198_192.out; have hnc10 := NB192_198.out; obtain ⟨hcz11_0, hcz11_1, hcz11_2, hcz11_3, hcz11_4⟩ := Xc5 BK198; obtain ⟨hfz11_0, hfz11_1, hfz11_2, hfz11_3, hfz11_4⟩ := Xf5 BK198) | ((with_reducible refine gate_store (t := 103) (p := 5) rfl ?_); refine store_event (t := 103) (p := 5) (v := ?vo_w12) (w1 := (((((w9.setCell ⟨gb198, 0, none⟩ (.int .i64 ((rd_T103 l0_2 x4_1).f0))).setCell ⟨gb198, 1, none⟩ (.int .i64 ((rd_T103 l0_2 x4_1).f1))).setCell ⟨gb198, 2, none⟩ (.int .i64 ((rd_T103 l0_2 x4_1).f2))).setCell ⟨gb198, 3, none⟩ (.string ((rd_T103 l0_2 x4_1).f3))).setCell ⟨gb198, 4, none⟩ (.slice A197_4 ((rd_T103 l0_2 x4_1).f4).length c197_4))) ?hg ?ho ?hn ?hr ?_; (case ho => rfl); (case hg => rfl); (case hn => rfl); (case hr => first | (go_simp; done) | (go_simp; rfl)); intro w12 hw; have n0_ : Aside0 (Kd.R (Kd.int .i64) 3 w12 w.heap.size (fun _ => True) u3 x3_1) := ⟨(by rw [hw]; exact (by (with_reducible repeat (first | apply Kd.R_alloc | apply Kd.R_drewN | apply Kd.R_drew)); exact Kd.R_mono (Kd.R_far (p := ⟨gb198, 4, none⟩) (Kd.R_far (p := ⟨gb198, 3, none⟩) (Kd.R_far (p := ⟨gb198, 2, none⟩) (Kd.R_far (p := ⟨gb198, 1, none⟩) (Kd.R_far (p := ⟨gb198, 0, none⟩) (Kd.R_types HO_3.out BK198.out (by decide)) (fun _ hk => hk.2) (.int .i64 ((rd_T103 l0_2 x4_1).f0))) (fun _ hk => hk.2) (.int .i64 ((rd_T103 l0_2 x4_1).f1))) (fun _ hk => hk.2) (.int .i64 ((rd_T103 l0_2 x4_1).f2))) (fun _ hk => hk.2) (.string ((rd_T103 l0_2 x4_1).f3))) (fun _ hk => hk.2) (.slice A197_4 ((rd_T103 l0_2 x4_1).f4).length c197_4)) (fun _ hk => trivial)))⟩; have n1_ : Aside0 (w12.heap[gb192]? = some (.cells #[.int .i64 a0_0, .int .i64 a0_1, .slice (some ad197) l0_2.length c0_2] 65 (0, 0))) := ⟨(by rw [hw]; exact (by (with_reducible repeat (first | refine blk_drewN ?_ _ | refine blk_drew ?_ | refine blk_alloc ?_ _)); refine blk_far ?_ NB192_198.out _; (with_reducible repeat (first | refine blk_drewN ?_ _ | refine blk_drew ?_ | refine blk_alloc ?_ _)); refine blk_far ?_ NB192_198.out _; (with_reducible repeat (first | refine blk_drewN ?_ _ | refine blk_drew ?_ | refine blk_alloc ?_ _)); refine blk_far ?_ NB192_198.out _; (with_reducible repeat (first | refine blk_drewN ?_ _ | refine blk_drew ?_ | refine blk_alloc ?_ _)); refine blk_far ?_ NB192_198.out _; (with_reducible repeat (first | refine blk_drewN ?_ _ | refine blk_drew ?_ | refine blk_alloc ?_ _)); refine blk_far ?_ NB192_198.out _; (with_reducible repeat (first | refine blk_drewN ?_ _ | refine blk_drew ?_ | refine blk_alloc ?_ _)); exact BK192.out))⟩; have n2_ : Aside0 (w12.heap[gb198]? = some (.cells #[.int .i64 ((rd_T103 l0_2 x4_1).f0), .int .i64 ((rd_T103 l0_2 x4_1).f1), .int .i64 ((rd_T103 l0_2 x4_1).f2), .string ((rd_T103 l0_2 x4_1).f3), .slice A197_4 ((rd_T103 l0_2 x4_1).f4).length c197_4] 103 (0, 0))) := ⟨(by rw [hw]; exact (by (with_reducible repeat (first | refine blk_drewN ?_ _ | refine blk_drew ?_ | refine blk_alloc ?_ _)); refine blk_put (cs := #[.int .i64 ((rd_T103 l0_2 x4_1).f0), .int .i64 ((rd_T103 l0_2 x4_1).f1), .int .i64 ((rd_T103 l0_2 x4_1).f2), .string ((rd_T103 l0_2 x4_1).f3), .slice none 0 0]) ?_ 4 _ rfl; (with_reducible repeat (first | refine blk_drewN ?_ _ | refine blk_drew ?_ | refine blk_alloc ?_ _)); refine blk_put (cs := #[.int .i64 ((rd_T103 l0_2 x4_1).f0), .int .i64 ((rd_T103 l0_2 x4_1).f1), .int .i64 ((rd_T103 l0_2 x4_1).f2), .string (⟨#[]⟩ : ByteArray), .slice none 0 0]) ?_ 3 _ rfl; (with_reducible repeat (first | refine blk_drewN ?_ _ | refine blk_drew ?_ | refine blk_alloc ?_ _)); refine blk_put (cs := #[.int .i64 ((rd_T103 l0_2 x4_1).f0), .int .i64 ((rd_T103 l0_2 x4_1).f1), .int .i64 0, .string (⟨#[]⟩ : ByteArray), .slice none 0 0]) ?_ 2 _ rfl; (with_reducible repeat (first | refine blk_drewN ?_ _ | refine blk_drew ?_ | refine blk_alloc ?_ _)); refine blk_put (cs := #[.int .i64 ((rd_T103 l0_2 x4_1).f0), .int .i64 0, .int .i64 0, .string (⟨#[]⟩ : ByteArray), .slice none 0 0]) ?_ 1 _ rfl; (with_reducible repeat (first | refine blk_drewN ?_ _ | refine blk_drew ?_ | refine blk_alloc ?_ _)); refine blk_put (cs := #[.int .i64 0, .int .i64 0, .int .i64 0, .string (⟨#[]⟩ : ByteArray), .slice none 0 0]) ?_ 0 _ rfl; (with_reducible repeat (first | refine blk_drewN ?_ _ | refine blk_drew ?_ | refine blk_alloc ?_ _)); exact BK198.out))⟩; have n3_ : Aside0 (Below w.heap.size w w12) := ⟨(by rw [hw]; exact Xi)⟩; clear hw; clear HO_3; clear BK192; clear BK198; clear HB; have HO_3 := n0_; have BK192 := n1_; have BK198 := n2_; have HB := n3_; clear n0_ n1_ n2_ n3_))
  (try simp only [XW.q0, XW.q1, XW.q2])
  go_cut [40] (fun v40 wc => ∃ (kq : Nat) (x40_6 : Bool), v40 = .bool x40_6 ∧ Aside0 (spec_l02Nodes.j1 kq x3_1 x4_1 x40_6 a0_0 a0_1 l0_2 ((rd_T103 l0_2 x4_1).f0) ((rd_T103 l0_2 x4_1).f1) ((rd_T103 l0_2 x4_1).f2) ((rd_T103 l0_2 x4_1).f3) ((rd_T103 l0_2 x4_1).f4) = some r) ∧ Aside0 (kq ≤ k1) ∧ Aside0 (Kd.R (Kd.int .i64) 3 wc w.heap.size (fun _ => True) u3 x3_1) ∧ Aside0 (wc.heap[gb192]? = some (.cells #[.int .i64 a0_0, .int .i64 a0_1, (.slice (some ad197) l0_2.length c0_2)] 65 (0, 0))) ∧ Aside0 (wc.heap[gb198]? = some (.cells #[.int .i64 ((rd_T103 l0_2 x4_1).f0), .int .i64 ((rd_T103 l0_2 x4_1).f1), .int .i64 ((rd_T103 l0_2 x4_1).f2), .string ((rd_T103 l0_2 x4_1).f3), (.slice A197_4 ((rd_T103 l0_2 x4_1).f4).length c197_4)] 103 (0, 0))) ∧ Aside0 (Below w.heap.size w wc))
  case first =>
   have H := HC7.out
   clear HC7
   obtain ⟨t199, A13, H⟩ := Xbi H
   (try dsimp only at H)
   by_cases c14 : t199 = true
   ·subst c14
    (first | rw [if_pos rfl] at H | skip)
    obtain ⟨c15, H⟩ | ⟨c15, H⟩ := Xiu H
    ·have c15b0 : decide (0 < x4_1) = true := decide_eq_true c15
     clear c15
     (first | rw [c15b0] | (simp only [i64_w, i32_w]; rw [c15b0]) | skip)
     obtain ⟨ji16, hji16⟩ : ∃ j_ : Int, (wrap64 (x4_1 - 1)) = j_ := ⟨_, rfl⟩
     replace H : (if 0 ≤ (ji16) then (if (ji16) < (l0_2.length : Int) then (spec_l02Nodes.j1 k1 x3_1 x4_1 (decide (((rd_T103 l0_2 x4_1).f0) ≤ ((rd_T103 l0_2 (ji16)).f0))) a0_0 a0_1 l0_2 ((rd_T103 l0_2 x4_1).f0) ((rd_T103 l0_2 x4_1).f1) ((rd_T103 l0_2 x4_1).f2) ((rd_T103 l0_2 x4_1).f3) ((rd_T103 l0_2 x4_1).f4)) else (none)) else (none)) = some r := by first | (rw [hji16] at H; exact H) | (simp only [hji16] at H ⊢; exact H)
     (try rw [hji16] at A13)
     have hji16w : (IntKind.i64.wrap (x4_1 - 1)) = ji16 := (i64_w _).trans hji16
     obtain ⟨c17b0, H⟩ := Xid H
     obtain ⟨c18b0, H⟩ := Xid H
     have H' := Aside0.mk H
     clear H
     try go_wp2_with (fail)
     replace HO_3 := Aside0.mk (Kd.R_drew HO_3.out)
     replace BK192 := Aside0.mk (blk_drew BK192.out)
     replace BK198 := Aside0.mk (blk_drew BK198.out)
     replace HB := Aside0.mk (below_drew1 HB.out)
     have p200 : 0 ≤ ((ji16) : Int) := of_decide_eq_true Xa
     have q200 : (ji16) < (l0_2.length : Int) := of_decide_eq_true Xa
     obtain ⟨ad200, A200_4, c200_4, e200, hx200_0, hx200_1, hx200_2, hx200_3, hx200_4, hl200_4, hi200_4⟩ := at_T103 HR0_2.out (ji16) p200 q200
     have hw200_4 := hx200_4
     have hw200_3 := hx200_3
     have hw200_2 := hx200_2
     have hw200_1 := hx200_1
     have hw200_0 := hx200_0
     obtain rfl : ad197 = ad200 := (by injection e200)
     replace hx200_0 := Xm HB hx200_0
     replace hx200_1 := Xm HB hx200_1
     replace hx200_2 := Xm HB hx200_2
     replace hx200_3 := Xm HB hx200_3
     replace hx200_4 := Xm HB hx200_4
     have HR200_4 := Aside0.mk hi200_4
     have HC200_4 := Aside0.mk hl200_4
     clear hi200_4 hl200_4
     replace p200 := eq_true p200
     replace q200 := eq_true q200
     refine start_ (n := 21) (S := fun w' => w'.cell? ⟨gb198, 0, none⟩ = some (.int .i64 ((rd_T103 l0_2 x4_1).f0)) ∧ w'.cell? ⟨gb198, 1, none⟩ = some (.int .i64 ((rd_T103 l0_2 x4_1).f1)) ∧ w'.cell? ⟨gb198, 2, none⟩ = some (.int .i64 ((rd_T103 l0_2 x4_1).f2)) ∧ w'.cell? ⟨gb198, 3, none⟩ = some (.string ((rd_T103 l0_2 x4_1).f3)) ∧ w'.cell? ⟨gb198, 4, none⟩ = some (.slice A197_4 ((rd_T103 l0_2 x4_1).f4).length c197_4) ∧ w'.cell? ⟨gb192, 0, none⟩ = some (.int .i64 a0_0) ∧ w'.cell? ⟨gb192, 1, none⟩ = some (.int .i64 a0_1) ∧ w'.cell? ⟨gb192, 2, none⟩ = some (.slice (some ad197) l0_2.length c0_2) ∧ w'.cell? (ad197.add (((ji16)).toNat * 5)) = some (.int .i64 ((rd_T103 l0_2 (ji16)).f0)) ∧ w'.cell? ⟨(ad197.add (((ji16)).toNat * 5)).block, (ad197.add (((ji16)).toNat * 5)).off + 1, none⟩ = some (.int .i64 ((rd_T103 l0_2 (ji16)).f1)) ∧ w'.cell? ⟨(ad197.add (((ji16)).toNat * 5)).block, (ad197.add (((ji16)).toNat * 5)).off + 2, none⟩ = some (.int .i64 ((rd_T103 l0_2 (ji16)).f2)) ∧ w'.cell? ⟨(ad197.add (((ji16)).toNat * 5)).block, (ad197.add (((ji16)).toNat * 5)).off + 3, none⟩ = some (.string ((rd_T103 l0_2 (ji16)).f3)) ∧ w'.cell? ⟨(ad197.add (((ji16)).toNat * 5)).block, (ad197.add (((ji16)).toNat * 5)).off + 4, none⟩ = some (.slice A200_4 ((rd_T103 l0_2 (ji16)).f4).length c200_4)) (ds := []) #[false, false, false, false, false, false, false, false, false, false, false, false, false, false, false, false, false, false, false, false, false] (by kernel_rfl) rfl rfl ⟨(blk_cell BK198.out 0).trans rfl, (blk_cell BK198.out 1).trans rfl, (blk_cell BK198.out 2).trans rfl, (blk_cell BK198.out 3).trans rfl, (blk_cell BK198.out 4).trans rfl, (blk_cell BK192.out 0).trans rfl, (blk_cell BK192.out 1).trans rfl, (blk_cell BK192.out 2).trans rfl, Xn hw200_0, Xn hw200_1, Xn hw200_2, Xn hw200_3, Xn hw200_4⟩ (fun hHeld => ?_); refine with_tabW spec_l02Nodes.tab6 spec_l02Nodes.bits6 (fun HT_ HW_ => ?_)
     generalize w12.drew = w19 at HO_3 BK192 BK198 HB HR200_4 hx200_0 hx200_1 hx200_2 hx200_3 hx200_4 hHeld ⊢
     refine Xpu 1 21 (XW.bs 21 2) HT_.out ?_
     refine Xta 0 20 (XW.bs 21 3) HT_.out HW_.out hHeld ?_
     refine Xta 2 22 (XW.bs 21 7) HT_.out HW_.out hHeld ?_
     refine one_ (i := 3) (N := some 23) (XW.bs 21 15) rfl rfl (one_of HT_.out (by kernel_rfl)) (by decide) (fun K hK => ?_)
     refine goes_ Try.func153 (by kernel_rfl) rfl #[.agg #[.int .i64 ((rd_T103 l0_2 x4_1).f0), .int .i64 ((rd_T103 l0_2 x4_1).f1), .int .i64 ((rd_T103 l0_2 x4_1).f2), .string ((rd_T103 l0_2 x4_1).f3), .slice A197_4 ((rd_T103 l0_2 x4_1).f4).length c197_4], .int .i64 a0_1] (by rfl) rfl rfl (by (try simp only [List.map_toArray, List.map_cons, List.map_nil]); first | done | rfl | (simp only [List.length_drop, List.length_take]; rfl)) ?_
     with_reducible refine (spec_l02Node.calls ((rd_T103 l0_2 x4_1).f0) ((rd_T103 l0_2 x4_1).f1) ((rd_T103 l0_2 x4_1).f2) ((rd_T103 l0_2 x4_1).f3) _ _ ((rd_T103 l0_2 x4_1).f4) a0_1 true _ ?side1 ?side2 A13.out).mono ?_
     (case side1 => exact Xc HR197_4)
     (case side2 => exact HC197_4.out)
     rintro e w20 ⟨rfl, hb⟩
     refine ⟨_, rfl, ?_⟩
     replace HO_3 := Aside0.mk (Kd.R_below (Xq HO_3) hb)
     replace BK192 := Xbb BK192 hb
     replace BK198 := Xbb BK198 hb
     replace HB := Aside0.mk (below_step Xi hb)
     (try clear hb)
     (try clear hb2)
     (try clear hk)
     (try clear hi)
     refine hK.out _ _ ⟨(blk_cell BK198.out 0).trans rfl, (blk_cell BK198.out 1).trans rfl, (blk_cell BK198.out 2).trans rfl, (blk_cell BK198.out 3).trans rfl, (blk_cell BK198.out 4).trans rfl, (blk_cell BK192.out 0).trans rfl, (blk_cell BK192.out 1).trans rfl, (blk_cell BK192.out 2).trans rfl, Xn hw200_0, Xn hw200_1, Xn hw200_2, Xn hw200_3, Xn hw200_4⟩ (fun hHeld => ?_)
     clear hK K
     refine Xno ?_
     refine Xpu 4 24 (XW.bs 21 31) HT_.out ?_
     refine Xpu 5 25 (XW.bs 21 63) HT_.out ?_
     refine Xpu 6 26 (XW.bs 21 127) HT_.out ?_
     refine Xpu 7 27 (XW.bs 21 255) HT_.out ?_
     refine Xpu 8 28 (XW.bs 21 511) HT_.out ?_
     refine Xpu 9 29 (XW.bs 21 1023) HT_.out ?_
     refine Xpu 11 31 (XW.bs 21 3071) HT_.out ?_
     refine Xpu 13 33 (XW.bs 21 11263) HT_.out ?_
     refine Xpu 14 34 (XW.bs 21 27647) HT_.out ?_
     refine Xta 10 30 (XW.bs 21 28671) HT_.out HW_.out hHeld ?_
     refine Xta 12 32 (XW.bs 21 32767) HT_.out HW_.out hHeld ?_
     refine Xpu 15 35 (XW.bs 21 65535) HT_.out ?_
     refine Xpu 16 36 (XW.bs 21 131071) HT_.out ?_
     refine Xta 17 37 (XW.bs 21 262143) HT_.out HW_.out hHeld ?_
     refine Xpu 18 38 (XW.bs 21 524287) HT_.out ?_
     refine Xpu 19 39 (XW.bs 21 1048575) HT_.out ?_
     refine Xpu 20 40 (XW.bs 21 2097151) HT_.out ?_
     refine done_ (done_of HT_.out (by kernel_rfl)) ?_
     try go_wp2_with (fail)
     go_meet
     case rel => exact ⟨_, (decide (((rd_T103 l0_2 x4_1).f0) ≤ ((rd_T103 l0_2 (ji16)).f0))), (by first | rfl | (simp; done) | (simp only [← hji16] <;> (first | rfl | simp)) | (simp [*]; done)), H', ⟨by have := HK1.out; first | omega | exact Nat.le_refl _⟩, (Xp' HO_3), (Xp BK192), (Xp BK198), ⟨Xi⟩⟩
    have c15b0 : decide (0 < x4_1) = false := decide_eq_false c15
    clear c15
    (first | rw [c15b0] | (simp only [i64_w, i32_w]; rw [c15b0]) | skip)
    have H' := Aside0.mk H
    clear H
    try go_wp2_with (fail)
    replace HO_3 := Aside0.mk (Kd.R_drew HO_3.out)
    replace BK192 := Aside0.mk (blk_drew BK192.out)
    replace BK198 := Aside0.mk (blk_drew BK198.out)
    replace HB := Aside0.mk (below_drew1 HB.out)
    refine start_ (n := 21) (S := fun w' => w'.cell? ⟨gb198, 0, none⟩ = some (.int .i64 ((rd_T103 l0_2 x4_1).f0)) ∧ w'.cell? ⟨gb198, 1, none⟩ = some (.int .i64 ((rd_T103 l0_2 x4_1).f1)) ∧ w'.cell? ⟨gb198, 2, none⟩ = some (.int .i64 ((rd_T103 l0_2 x4_1).f2)) ∧ w'.cell? ⟨gb198, 3, none⟩ = some (.string ((rd_T103 l0_2 x4_1).f3)) ∧ w'.cell? ⟨gb198, 4, none⟩ = some (.slice A197_4 ((rd_T103 l0_2 x4_1).f4).length c197_4) ∧ w'.cell? ⟨gb192, 0, none⟩ = some (.int .i64 a0_0) ∧ w'.cell? ⟨gb192, 1, none⟩ = some (.int .i64 a0_1) ∧ w'.cell? ⟨gb192, 2, none⟩ = some (.slice (some ad197) l0_2.length c0_2)) (ds := []) #[false, false, false, false, false, false, false, false, false, false, false, false, false, false, false, false, false, false, false, false, false] (by kernel_rfl) rfl rfl ⟨(blk_cell BK198.out 0).trans rfl, (blk_cell BK198.out 1).trans rfl, (blk_cell BK198.out 2).trans rfl, (blk_cell BK198.out 3).trans rfl, (blk_cell BK198.out 4).trans rfl, (blk_cell BK192.out 0).trans rfl, (blk_cell BK192.out 1).trans rfl, (blk_cell BK192.out 2).trans rfl⟩ (fun hHeld => ?_); refine with_tabW spec_l02Nodes.tab6 spec_l02Nodes.bits6 (fun HT_ HW_ => ?_)
    generalize w12.drew = w21 at HO_3 BK192 BK198 HB hHeld ⊢
    refine Xpu 1 21 (XW.bs 21 2) HT_.out ?_
    refine Xta 0 20 (XW.bs 21 3) HT_.out HW_.out hHeld ?_
    refine Xta 2 22 (XW.bs 21 7) HT_.out HW_.out hHeld ?_
    refine one_ (i := 3) (N := some 23) (XW.bs 21 15) rfl rfl (one_of HT_.out (by kernel_rfl)) (by decide) (fun K hK => ?_)
    refine goes_ Try.func153 (by kernel_rfl) rfl #[.agg #[.int .i64 ((rd_T103 l0_2 x4_1).f0), .int .i64 ((rd_T103 l0_2 x4_1).f1), .int .i64 ((rd_T103 l0_2 x4_1).f2), .string ((rd_T103 l0_2 x4_1).f3), .slice A197_4 ((rd_T103 l0_2 x4_1).f4).length c197_4], .int .i64 a0_1] (by rfl) rfl rfl (by (try simp only [List.map_toArray, List.map_cons, List.map_nil]); first | done | rfl | (simp only [List.length_drop, List.length_take]; rfl)) ?_
    with_reducible refine (spec_l02Node.calls ((rd_T103 l0_2 x4_1).f0) ((rd_T103 l0_2 x4_1).f1) ((rd_T103 l0_2 x4_1).f2) ((rd_T103 l0_2 x4_1).f3) _ _ ((rd_T103 l0_2 x4_1).f4) a0_1 true _ ?side1 ?side2 A13.out).mono ?_
    (case side1 => exact Xc HR197_4)
    (case side2 => exact HC197_4.out)
    rintro e w22 ⟨rfl, hb⟩
    refine ⟨_, rfl, ?_⟩
    replace HO_3 := Aside0.mk (Kd.R_below (Xq HO_3) hb)
    replace BK192 := Xbb BK192 hb
    replace BK198 := Xbb BK198 hb
    replace HB := Aside0.mk (below_step Xi hb)
    (try clear hb)
    (try clear hb2)
    (try clear hk)
    (try clear hi)
    refine hK.out _ _ ⟨(blk_cell BK198.out 0).trans rfl, (blk_cell BK198.out 1).trans rfl, (blk_cell BK198.out 2).trans rfl, (blk_cell BK198.out 3).trans rfl, (blk_cell BK198.out 4).trans rfl, (blk_cell BK192.out 0).trans rfl, (blk_cell BK192.out 1).trans rfl, (blk_cell BK192.out 2).trans rfl⟩ (fun hHeld => ?_)
    clear hK K
    refine Xno ?_
    refine Xpu 4 24 (XW.bs 21 31) HT_.out ?_
    refine Xpu 5 25 (XW.bs 21 63) HT_.out ?_
    refine Xpu 6 26 (XW.bs 21 127) HT_.out ?_
    refine Xpu 7 27 (XW.bs 21 255) HT_.out ?_
    refine Xpu 8 28 (XW.bs 21 511) HT_.out ?_
    refine Xpn 9 29 (XW.bs 21 1023) HT_.out ?_
    refine Xpn 10 30 (XW.bs 21 2047) HT_.out ?_
    refine Xpn 11 31 (XW.bs 21 4095) HT_.out ?_
    refine Xpn 12 32 (XW.bs 21 8191) HT_.out ?_
    refine Xpn 13 33 (XW.bs 21 16383) HT_.out ?_
    refine Xpn 14 34 (XW.bs 21 32767) HT_.out ?_
    refine Xpn 15 35 (XW.bs 21 65535) HT_.out ?_
    refine Xpn 16 36 (XW.bs 21 131071) HT_.out ?_
    refine Xpn 17 37 (XW.bs 21 262143) HT_.out ?_
    refine Xpn 18 38 (XW.bs 21 524287) HT_.out ?_
    refine Xpu 19 39 (XW.bs 21 1048575) HT_.out ?_
    refine Xpu 20 40 (XW.bs 21 2097151) HT_.out ?_
    refine done_ (done_of HT_.out (by kernel_rfl)) ?_
    try go_wp2_with (fail)
    go_meet
    case rel => exact ⟨_, (false), Xr, H', ⟨by have := HK1.out; first | omega | exact Nat.le_refl _⟩, (Xp' HO_3), (Xp BK192), (Xp BK198), ⟨Xi⟩⟩
   replace c14 := Bool.eq_false_iff.mpr c14
   subst c14
   (first | rw [if_neg (show ¬ (false = true) by decide)] at H | skip)
   have H' := Aside0.mk H
   clear H
   try go_wp2_with (fail)
   replace HO_3 := Aside0.mk (Kd.R_drew HO_3.out)
   replace BK192 := Aside0.mk (blk_drew BK192.out)
   replace BK198 := Aside0.mk (blk_drew BK198.out)
   replace HB := Aside0.mk (below_drew1 HB.out)
   refine start_ (n := 21) (S := fun w' => w'.cell? ⟨gb198, 0, none⟩ = some (.int .i64 ((rd_T103 l0_2 x4_1).f0)) ∧ w'.cell? ⟨gb198, 1, none⟩ = some (.int .i64 ((rd_T103 l0_2 x4_1).f1)) ∧ w'.cell? ⟨gb198, 2, none⟩ = some (.int .i64 ((rd_T103 l0_2 x4_1).f2)) ∧ w'.cell? ⟨gb198, 3, none⟩ = some (.string ((rd_T103 l0_2 x4_1).f3)) ∧ w'.cell? ⟨gb198, 4, none⟩ = some (.slice A197_4 ((rd_T103 l0_2 x4_1).f4).length c197_4) ∧ w'.cell? ⟨gb192, 0, none⟩ = some (.int .i64 a0_0) ∧ w'.cell? ⟨gb192, 1, none⟩ = some (.int .i64 a0_1) ∧ w'.cell? ⟨gb192, 2, none⟩ = some (.slice (some ad197) l0_2.length c0_2)) (ds := []) #[false, false, false, false, false, false, false, false, false, false, false, false, false, false, false, false, false, false, false, false, false] (by kernel_rfl) rfl rfl ⟨(blk_cell BK198.out 0).trans rfl, (blk_cell BK198.out 1).trans rfl, (blk_cell BK198.out 2).trans rfl, (blk_cell BK198.out 3).trans rfl, (blk_cell BK198.out 4).trans rfl, (blk_cell BK192.out 0).trans rfl, (blk_cell BK192.out 1).trans rfl, (blk_cell BK192.out 2).trans rfl⟩ (fun hHeld => ?_); refine with_tabW spec_l02Nodes.tab6 spec_l02Nodes.bits6 (fun HT_ HW_ => ?_)
   generalize w12.drew = w23 at HO_3 BK192 BK198 HB hHeld ⊢
   refine Xpu 1 21 (XW.bs 21 2) HT_.out ?_
   refine Xta 0 20 (XW.bs 21 3) HT_.out HW_.out hHeld ?_
   refine Xta 2 22 (XW.bs 21 7) HT_.out HW_.out hHeld ?_
   refine one_ (i := 3) (N := some 23) (XW.bs 21 15) rfl rfl (one_of HT_.out (by kernel_rfl)) (by decide) (fun K hK => ?_)
   refine goes_ Try.func153 (by kernel_rfl) rfl #[.agg #[.int .i64 ((rd_T103 l0_2 x4_1).f0), .int .i64 ((rd_T103 l0_2 x4_1).f1), .int .i64 ((rd_T103 l0_2 x4_1).f2), .string ((rd_T103 l0_2 x4_1).f3), .slice A197_4 ((rd_T103 l0_2 x4_1).f4).length c197_4], .int .i64 a0_1] (by rfl) rfl rfl (by (try simp only [List.map_toArray, List.map_cons, List.map_nil]); first | done | rfl | (simp only [List.length_drop, List.length_take]; rfl)) ?_
   with_reducible refine (spec_l02Node.calls ((rd_T103 l0_2 x4_1).f0) ((rd_T103 l0_2 x4_1).f1) ((rd_T103 l0_2 x4_1).f2) ((rd_T103 l0_2 x4_1).f3) _ _ ((rd_T103 l0_2 x4_1).f4) a0_1 false _ ?side1 ?side2 A13.out).mono ?_
   (case side1 => exact Xc HR197_4)
   (case side2 => exact HC197_4.out)
   rintro e w24 ⟨rfl, hb⟩
   refine ⟨_, rfl, ?_⟩
   replace HO_3 := Aside0.mk (Kd.R_below (Xq HO_3) hb)
   replace BK192 := Xbb BK192 hb
   replace BK198 := Xbb BK198 hb
   replace HB := Aside0.mk (below_step Xi hb)
   (try clear hb)
   (try clear hb2)
   (try clear hk)
   (try clear hi)
   refine hK.out _ _ ⟨(blk_cell BK198.out 0).trans rfl, (blk_cell BK198.out 1).trans rfl, (blk_cell BK198.out 2).trans rfl, (blk_cell BK198.out 3).trans rfl, (blk_cell BK198.out 4).trans rfl, (blk_cell BK192.out 0).trans rfl, (blk_cell BK192.out 1).trans rfl, (blk_cell BK192.out 2).trans rfl⟩ (fun hHeld => ?_)
   clear hK K
   refine Xno ?_
   refine Xpu 4 24 (XW.bs 21 31) HT_.out ?_
   refine Xpu 5 25 (XW.bs 21 63) HT_.out ?_
   refine Xpn 6 26 (XW.bs 21 127) HT_.out ?_
   refine Xpn 7 27 (XW.bs 21 255) HT_.out ?_
   refine Xpn 8 28 (XW.bs 21 511) HT_.out ?_
   refine Xpn 9 29 (XW.bs 21 1023) HT_.out ?_
   refine Xpn 10 30 (XW.bs 21 2047) HT_.out ?_
   refine Xpn 11 31 (XW.bs 21 4095) HT_.out ?_
   refine Xpn 12 32 (XW.bs 21 8191) HT_.out ?_
   refine Xpn 13 33 (XW.bs 21 16383) HT_.out ?_
   refine Xpn 14 34 (XW.bs 21 32767) HT_.out ?_
   refine Xpn 15 35 (XW.bs 21 65535) HT_.out ?_
   refine Xpn 16 36 (XW.bs 21 131071) HT_.out ?_
   refine Xpn 17 37 (XW.bs 21 262143) HT_.out ?_
   refine Xpn 18 38 (XW.bs 21 524287) HT_.out ?_
   refine Xpn 19 39 (XW.bs 21 1048575) HT_.out ?_
   refine Xpu 20 40 (XW.bs 21 2097151) HT_.out ?_
   refine done_ (done_of HT_.out (by kernel_rfl)) ?_
   try go_wp2_with (fail)
   go_meet
   case rel => exact ⟨_, (true), Xr, H', ⟨by have := HK1.out; first | omega | exact Nat.le_refl _⟩, (Xp' HO_3), (Xp BK192), (Xp BK198), ⟨Xi⟩⟩
  clear HC7
  (try clear c5); (try clear c5b0); (try clear c6); (try clear c6b0); (try clear hcz11_0); (try clear hcz11_1); (try clear hcz11_2); (try clear hcz11_3); (try clear hcz11_4); (try clear hcz8_0); (try clear hcz8_1); (try clear hcz8_2); (try clear hfz11_0); (try clear hfz11_1); (try clear hfz11_2); (try clear hfz11_3); (try clear hfz11_4); (try clear hfz8_0); (try clear hfz8_1); (try clear hfz8_2); (try clear hx197_0); (try clear hx197_1); (try clear hx197_2); (try clear hx197_3); (try clear hx197_4); (try clear p197); (try clear q197)
  obtain ⟨kq, x40_6, rfl, HA, HJ6, HO_3, BK192, BK198, HB⟩ := hcut
  cases kq with | zero => cases HA.out | succ kj6 => ?_
  have H := HA.out
  clear HA
  simp only [spec_l02Nodes.j1] at H
  by_cases c25 : x40_6 = true
  ·subst c25
   (first | rw [if_pos rfl] at H | skip)
   obtain rfl := Option.some.inj H
   go_wp2
   go_ret
   exact ⟨Xe, Xi⟩
  replace c25 := Bool.eq_false_iff.mpr c25
  subst c25
  (first | rw [if_neg (show ¬ (false = true) by decide)] at H | skip)
  have H' := Aside0.mk H
  clear H
  go_wp2
  go_loopg [3, 6] kj6 (fun kq v3 v6 w' => ∃ (x3_3 : List Int) (x6_3 : Int), v6 = .int .i64 x6_3 ∧ Aside0 (spec_l02Nodes.l1 kq x3_3 x4_1 x6_3 a0_0 a0_1 l0_2 ((rd_T103 l0_2 x4_1).f0) ((rd_T103 l0_2 x4_1).f1) ((rd_T103 l0_2 x4_1).f2) ((rd_T103 l0_2 x4_1).f3) ((rd_T103 l0_2 x4_1).f4) = some r) ∧ Aside0 (kq ≤ kj6) ∧ Aside0 (Kd.R (Kd.int .i64) 3 w' w.heap.size (fun _ => True) v3 x3_3) ∧ Aside0 (w'.heap[gb192]? = some (.cells #[.int .i64 a0_0, .int .i64 a0_1, (.slice (some ad197) l0_2.length c0_2)] 65 (0, 0))) ∧ Aside0 (w'.heap[gb198]? = some (.cells #[.int .i64 ((rd_T103 l0_2 x4_1).f0), .int .i64 ((rd_T103 l0_2 x4_1).f1), .int .i64 ((rd_T103 l0_2 x4_1).f2), .string ((rd_T103 l0_2 x4_1).f3), (.slice A197_4 ((rd_T103 l0_2 x4_1).f4).length c197_4)] 103 (0, 0))) ∧ Aside0 (Below w.heap.size w w'))
  case atStart => exact ⟨(x3_1), (0), Xr, H', Xkr, (Xp' HO_3), (Xp BK192), (Xp BK198), ⟨Xi⟩⟩
  clear H'
  (try clear c5); (try clear c5b0); (try clear c6); (try clear c6b0); (try clear c25); (try clear hcz11_0); (try clear hcz11_1); (try clear hcz11_2); (try clear hcz11_3); (try clear hcz11_4); (try clear hcz8_0); (try clear hcz8_1); (try clear hcz8_2); (try clear hfz11_0); (try clear hfz11_1); (try clear hfz11_2); (try clear hfz11_3); (try clear hfz11_4); (try clear hfz8_0); (try clear hfz8_1); (try clear hfz8_2); (try clear hx197_0); (try clear hx197_1); (try clear hx197_2); (try clear hx197_3); (try clear hx197_4); (try clear p197); (try clear q197)
  obtain ⟨x3_3, x6_3, rfl, HA, HK3, HO_3, BK192, BK198, HB⟩ := hrel
  cases gk with | zero => cases HA.out | succ k3 => ?_
  have H := HA.out
  clear HA
  simp only [spec_l02Nodes.l1] at H
  obtain ⟨c26b0, H⟩ | ⟨c26b0, H⟩ := Xit H
  ·obtain ⟨c27b0, H⟩ := Xid H
   obtain ⟨c28, H⟩ | ⟨c28, H⟩ := Xiu H
   ·have c28b0 : ((rd ((rd_T103 l0_2 x4_1).f4) x6_3) == a0_0) = true := beq_iff_eq.mpr c28
    have c28b1 : ((rd ((rd_T103 l0_2 x4_1).f4) x6_3) != a0_0) = false := bne_eq_false_iff_eq.mpr c28
    clear c28
    obtain rfl := Option.some.inj H
    have hnb29 := NB198_192.out
    have hnc29 := NB192_198.out
    obtain ⟨hcz30_0, hcz30_1, hcz30_2, hcz30_3, hcz30_4⟩ := Xc5 BK198
    obtain ⟨hfz30_0, hfz30_1, hfz30_2, hfz30_3, hfz30_4⟩ := Xf5 BK198
    try go_wp2_with (fail)
    replace HO_3 := Aside0.mk (Kd.R_drew HO_3.out)
    replace BK192 := Aside0.mk (blk_drew BK192.out)
    replace BK198 := Aside0.mk (blk_drew BK198.out)
    replace HB := Aside0.mk (below_drew1 HB.out)
    have p201 : 0 ≤ (x6_3 : Int) := of_decide_eq_true Xa
    have q201 : x6_3 < (((rd_T103 l0_2 x4_1).f4).length : Int) := of_decide_eq_true Xa
    obtain ⟨ad201, e201, hx201_0⟩ := Kd.at_int HR197_4.out x6_3 p201 q201
    have hw201_0 := hx201_0
    cases e201
    replace hx201_0 := Xm HB hx201_0
    replace p201 := eq_true p201
    replace q201 := eq_true q201
    refine start_ (n := 27) (S := fun w' => w'.cell? ⟨gb198, 0, none⟩ = some (.int .i64 ((rd_T103 l0_2 x4_1).f0)) ∧ w'.cell? ⟨gb198, 1, none⟩ = some (.int .i64 ((rd_T103 l0_2 x4_1).f1)) ∧ w'.cell? ⟨gb198, 2, none⟩ = some (.int .i64 ((rd_T103 l0_2 x4_1).f2)) ∧ w'.cell? ⟨gb198, 3, none⟩ = some (.string ((rd_T103 l0_2 x4_1).f3)) ∧ w'.cell? ⟨gb198, 4, none⟩ = some (.slice (some ad201) ((rd_T103 l0_2 x4_1).f4).length c197_4) ∧ w'.cell? ⟨gb192, 0, none⟩ = some (.int .i64 a0_0) ∧ w'.cell? ⟨gb192, 1, none⟩ = some (.int .i64 a0_1) ∧ w'.cell? ⟨gb192, 2, none⟩ = some (.slice (some ad197) l0_2.length c0_2) ∧ w'.cell? (ad201.add (x6_3).toNat) = some (.int .i64 (rd ((rd_T103 l0_2 x4_1).f4) x6_3))) (ds := []) #[false, false, false, false, false, false, false, false, false, false, false, false, false, false, false, false, false, false, false, false, false, false, false, false, false, false, false] (by kernel_rfl) rfl rfl ⟨(blk_cell BK198.out 0).trans rfl, (blk_cell BK198.out 1).trans rfl, (blk_cell BK198.out 2).trans rfl, (blk_cell BK198.out 3).trans rfl, (blk_cell BK198.out 4).trans rfl, (blk_cell BK192.out 0).trans rfl, (blk_cell BK192.out 1).trans rfl, (blk_cell BK192.out 2).trans rfl, Xn hw201_0⟩ (fun hHeld => ?_); refine with_tabW spec_l02Nodes.tab11 spec_l02Nodes.bits11 (fun HT_ HW_ => ?_)
    generalize wr.drew = w31 at HO_3 BK192 BK198 HB hx201_0 hHeld ⊢
    refine Xpu 0 48 (XW.bs 27 1) HT_.out ?_
    refine Xpu 2 50 (XW.bs 27 5) HT_.out ?_
    refine Xpu 5 53 (XW.bs 27 37) HT_.out ?_
    refine Xta 1 49 (XW.bs 27 39) HT_.out HW_.out hHeld ?_
    refine Xpu 3 51 (XW.bs 27 47) HT_.out ?_
    refine Xta 4 52 (XW.bs 27 63) HT_.out HW_.out hHeld ?_
    refine Xta 6 54 (XW.bs 27 127) HT_.out HW_.out hHeld ?_
    refine Xpu 7 55 (XW.bs 27 255) HT_.out ?_
    refine Xpu 8 56 (XW.bs 27 511) HT_.out ?_
    refine Xpn 9 57 (XW.bs 27 1023) HT_.out ?_
    refine Xpn 10 58 (XW.bs 27 2047) HT_.out ?_
    refine Xpn 11 59 (XW.bs 27 4095) HT_.out ?_
    refine Xpn 12 60 (XW.bs 27 8191) HT_.out ?_
    refine Xpn 13 61 (XW.bs 27 16383) HT_.out ?_
    refine Xpn 14 62 (XW.bs 27 32767) HT_.out ?_
    refine Xpn 15 63 (XW.bs 27 65535) HT_.out ?_
    refine Xpu 16 64 (XW.bs 27 131071) HT_.out ?_
    refine Xpu 17 65 (XW.bs 27 262143) HT_.out ?_
    refine Xpn 18 66 (XW.bs 27 524287) HT_.out ?_
    refine Xpn 19 67 (XW.bs 27 1048575) HT_.out ?_
    refine Xpn 20 68 (XW.bs 27 2097151) HT_.out ?_
    refine Xpn 21 69 (XW.bs 27 4194303) HT_.out ?_
    refine Xpn 22 70 (XW.bs 27 8388607) HT_.out ?_
    refine Xpn 23 71 (XW.bs 27 16777215) HT_.out ?_
    refine Xpn 24 72 (XW.bs 27 33554431) HT_.out ?_
    refine Xpn 25 73 (XW.bs 27 67108863) HT_.out ?_
    refine Xpu 26 74 (XW.bs 27 134217727) HT_.out ?_
    refine done_ (done_of HT_.out (by kernel_rfl)) ?_
    try go_wp2_with (fail)
    go_ret
    exact ⟨Xe, Xi⟩
   have c28b0 : ((rd ((rd_T103 l0_2 x4_1).f4) x6_3) == a0_0) = false := beq_eq_false_iff_ne.mpr c28
   have c28b1 : ((rd ((rd_T103 l0_2 x4_1).f4) x6_3) != a0_0) = true := bne_iff_ne.mpr c28
   obtain ⟨t203, A32, H⟩ := Xbi H
   (try dsimp only at H)
   by_cases c33 : t203 = true
   ·subst c33
    (first | rw [if_pos rfl] at H | skip)
    obtain rfl := Option.some.inj H
    have hnb34 := NB198_192.out
    have hnc34 := NB192_198.out
    obtain ⟨hcz35_0, hcz35_1, hcz35_2, hcz35_3, hcz35_4⟩ := Xc5 BK198
    obtain ⟨hfz35_0, hfz35_1, hfz35_2, hfz35_3, hfz35_4⟩ := Xf5 BK198
    try go_wp2_with (fail)
    replace HO_3 := Aside0.mk (Kd.R_drew HO_3.out)
    replace BK192 := Aside0.mk (blk_drew BK192.out)
    replace BK198 := Aside0.mk (blk_drew BK198.out)
    replace HB := Aside0.mk (below_drew1 HB.out)
    have p201 : 0 ≤ (x6_3 : Int) := of_decide_eq_true Xa
    have q201 : x6_3 < (((rd_T103 l0_2 x4_1).f4).length : Int) := of_decide_eq_true Xa
    obtain ⟨ad201, e201, hx201_0⟩ := Kd.at_int HR197_4.out x6_3 p201 q201
    have hw201_0 := hx201_0
    cases e201
    replace hx201_0 := Xm HB hx201_0
    replace p201 := eq_true p201
    replace q201 := eq_true q201
    have p202 : 0 ≤ (x6_3 : Int) := of_decide_eq_true Xa
    have q202 : x6_3 < (((rd_T103 l0_2 x4_1).f4).length : Int) := of_decide_eq_true Xa
    obtain ⟨ad202, e202, hx202_0⟩ := Kd.at_int HR197_4.out x6_3 p202 q202
    have hw202_0 := hx202_0
    obtain rfl : ad201 = ad202 := (by injection e202)
    replace hx202_0 := Xm HB hx202_0
    replace p202 := eq_true p202
    replace q202 := eq_true q202
    obtain ⟨Ao37, co37, eo37⟩ := Kd.R_slice HO_3.out
    (first | subst eo37 | (injection eo37 with f1_ f2_ f3_; have f4_ := f1_.symm; have f5_ := f3_.symm; clear f1_ f2_ f3_; subst f4_; subst f5_))
    refine start_ (n := 27) (S := fun w' => w'.cell? ⟨gb198, 0, none⟩ = some (.int .i64 ((rd_T103 l0_2 x4_1).f0)) ∧ w'.cell? ⟨gb198, 1, none⟩ = some (.int .i64 ((rd_T103 l0_2 x4_1).f1)) ∧ w'.cell? ⟨gb198, 2, none⟩ = some (.int .i64 ((rd_T103 l0_2 x4_1).f2)) ∧ w'.cell? ⟨gb198, 3, none⟩ = some (.string ((rd_T103 l0_2 x4_1).f3)) ∧ w'.cell? ⟨gb198, 4, none⟩ = some (.slice (some ad201) ((rd_T103 l0_2 x4_1).f4).length c197_4) ∧ w'.cell? ⟨gb192, 0, none⟩ = some (.int .i64 a0_0) ∧ w'.cell? ⟨gb192, 1, none⟩ = some (.int .i64 a0_1) ∧ w'.cell? ⟨gb192, 2, none⟩ = some (.slice (some ad197) l0_2.length c0_2) ∧ w'.cell? (ad201.add (x6_3).toNat) = some (.int .i64 (rd ((rd_T103 l0_2 x4_1).f4) x6_3)) ∧ w'.cell? (ad201.add (x6_3).toNat) = some (.int .i64 (rd ((rd_T103 l0_2 x4_1).f4) x6_3))) (ds := []) #[false, false, false, false, false, false, false, false, false, false, false, false, false, false, false, false, false, false, false, false, false, false, false, false, false, false, false] (by kernel_rfl) rfl rfl ⟨(blk_cell BK198.out 0).trans rfl, (blk_cell BK198.out 1).trans rfl, (blk_cell BK198.out 2).trans rfl, (blk_cell BK198.out 3).trans rfl, (blk_cell BK198.out 4).trans rfl, (blk_cell BK192.out 0).trans rfl, (blk_cell BK192.out 1).trans rfl, (blk_cell BK192.out 2).trans rfl, Xn hw201_0, Xn hw202_0⟩ (fun hHeld => ?_); refine with_tabW spec_l02Nodes.tab11 spec_l02Nodes.bits11 (fun HT_ HW_ => ?_)
    generalize wr.drew = w36 at HO_3 BK192 BK198 HB hx201_0 hx202_0 hHeld ⊢
    refine Xpu 0 48 (XW.bs 27 1) HT_.out ?_
    refine Xpu 2 50 (XW.bs 27 5) HT_.out ?_
    refine Xpu 5 53 (XW.bs 27 37) HT_.out ?_
    refine Xta 1 49 (XW.bs 27 39) HT_.out HW_.out hHeld ?_
    refine Xpu 3 51 (XW.bs 27 47) HT_.out ?_
    refine Xta 4 52 (XW.bs 27 63) HT_.out HW_.out hHeld ?_
    refine Xta 6 54 (XW.bs 27 127) HT_.out HW_.out hHeld ?_
    refine Xpu 7 55 (XW.bs 27 255) HT_.out ?_
    refine Xpu 8 56 (XW.bs 27 511) HT_.out ?_
    refine Xpu 9 57 (XW.bs 27 1023) HT_.out ?_
    refine Xpu 10 58 (XW.bs 27 2047) HT_.out ?_
    refine Xpu 12 60 (XW.bs 27 6143) HT_.out ?_
    refine Xta 11 59 (XW.bs 27 8191) HT_.out HW_.out hHeld ?_
    refine Xpu 13 61 (XW.bs 27 16383) HT_.out ?_
    refine Xta 14 62 (XW.bs 27 32767) HT_.out HW_.out hHeld ?_
    refine one_ (i := 15) (N := some 63) (XW.bs 27 65535) rfl rfl (one_of HT_.out (by kernel_rfl)) (by decide) (fun K hK => ?_)
    refine goes_ Try.func106 (by kernel_rfl) rfl #[.slice Ao37 x3_3.length co37, .int .i64 (rd ((rd_T103 l0_2 x4_1).f4) x6_3)] (by rfl) rfl rfl (by (try simp only [List.map_toArray, List.map_cons, List.map_nil]); first | done | rfl | (simp only [List.length_drop, List.length_take]; rfl)) ?_
    with_reducible refine (spec_l02Has.calls k3 _ _ x3_3 (rd ((rd_T103 l0_2 x4_1).f4) x6_3) true _ ?side1 ?side2 A32.out).mono ?_
    (case side1 => repeat (first | exact (Kd.R_reads' HO_3.out).2.2 | (with_reducible first | refine Kd.C_alloc ?_ _ | refine Kd.C_drewN ?_ _ | refine Kd.C_drew ?_)))
    (case side2 => exact (Kd.R_reads' HO_3.out).2.1)
    rintro e w' ⟨rfl, ⟨nd, rfl⟩⟩
    refine ⟨_, rfl, ?_⟩
    refine hK.out _ _ ⟨(blk_cell BK198.out 0).trans rfl, (blk_cell BK198.out 1).trans rfl, (blk_cell BK198.out 2).trans rfl, (blk_cell BK198.out 3).trans rfl, (blk_cell BK198.out 4).trans rfl, (blk_cell BK192.out 0).trans rfl, (blk_cell BK192.out 1).trans rfl, (blk_cell BK192.out 2).trans rfl, Xn hw201_0, Xn hw202_0⟩ (fun hHeld => ?_)
    clear hK K
    refine Xno ?_
    refine Xpu 16 64 (XW.bs 27 131071) HT_.out ?_
    refine Xpu 17 65 (XW.bs 27 262143) HT_.out ?_
    refine Xpn 18 66 (XW.bs 27 524287) HT_.out ?_
    refine Xpn 19 67 (XW.bs 27 1048575) HT_.out ?_
    refine Xpn 20 68 (XW.bs 27 2097151) HT_.out ?_
    refine Xpn 21 69 (XW.bs 27 4194303) HT_.out ?_
    refine Xpn 22 70 (XW.bs 27 8388607) HT_.out ?_
    refine Xpn 23 71 (XW.bs 27 16777215) HT_.out ?_
    refine Xpn 24 72 (XW.bs 27 33554431) HT_.out ?_
    refine Xpn 25 73 (XW.bs 27 67108863) HT_.out ?_
    refine Xpu 26 74 (XW.bs 27 134217727) HT_.out ?_
    refine done_ (done_of HT_.out (by kernel_rfl)) ?_
    try go_wp2_with (fail)
    go_ret
    exact ⟨Xe, Xi⟩
   replace c33 := Bool.eq_false_iff.mpr c33
   subst c33
   (first | rw [if_neg (show ¬ (false = true) by decide)] at H | skip)
   obtain ⟨t205, A38, H⟩ := Xbi H
   (try dsimp only at H)
   have HC39 := Aside0.mk H
   clear H
   have hnb40 := NB198_192.out
   have hnc40 := NB192_198.out
   obtain ⟨hcz41_0, hcz41_1, hcz41_2, hcz41_3, hcz41_4⟩ := Xc5 BK198
   obtain ⟨hfz41_0, hfz41_1, hfz41_2, hfz41_3, hfz41_4⟩ := Xf5 BK198
   try go_wp2_with (fail)
   replace HO_3 := Aside0.mk (Kd.R_drew HO_3.out)
   replace BK192 := Aside0.mk (blk_drew BK192.out)
   replace BK198 := Aside0.mk (blk_drew BK198.out)
   replace HB := Aside0.mk (below_drew1 HB.out)
   have p201 : 0 ≤ (x6_3 : Int) := of_decide_eq_true Xa
   have q201 : x6_3 < (((rd_T103 l0_2 x4_1).f4).length : Int) := of_decide_eq_true Xa
   obtain ⟨ad201, e201, hx201_0⟩ := Kd.at_int HR197_4.out x6_3 p201 q201
   have hw201_0 := hx201_0
   cases e201
   replace hx201_0 := Xm HB hx201_0
   replace p201 := eq_true p201
   replace q201 := eq_true q201
   have p202 : 0 ≤ (x6_3 : Int) := of_decide_eq_true Xa
   have q202 : x6_3 < (((rd_T103 l0_2 x4_1).f4).length : Int) := of_decide_eq_true Xa
   obtain ⟨ad202, e202, hx202_0⟩ := Kd.at_int HR197_4.out x6_3 p202 q202
   have hw202_0 := hx202_0
   obtain rfl : ad201 = ad202 := (by injection e202)
   replace hx202_0 := Xm HB hx202_0
   replace p202 := eq_true p202
   replace q202 := eq_true q202
   obtain ⟨Ao43, co43, eo43⟩ := Kd.R_slice HO_3.out
   (first | subst eo43 | (injection eo43 with f1_ f2_ f3_; have f4_ := f1_.symm; have f5_ := f3_.symm; clear f1_ f2_ f3_; subst f4_; subst f5_))
   have p204 : 0 ≤ (x6_3 : Int) := of_decide_eq_true Xa
   have q204 : x6_3 < (((rd_T103 l0_2 x4_1).f4).length : Int) := of_decide_eq_true Xa
   obtain ⟨ad204, e204, hx204_0⟩ := Kd.at_int HR197_4.out x6_3 p204 q204
   have hw204_0 := hx204_0
   obtain rfl : ad201 = ad204 := (by injection e204)
   replace hx204_0 := Xm HB hx204_0
   replace p204 := eq_true p204
   replace q204 := eq_true q204
   refine start_ (n := 27) (S := fun w' => w'.cell? ⟨gb198, 0, none⟩ = some (.int .i64 ((rd_T103 l0_2 x4_1).f0)) ∧ w'.cell? ⟨gb198, 1, none⟩ = some (.int .i64 ((rd_T103 l0_2 x4_1).f1)) ∧ w'.cell? ⟨gb198, 2, none⟩ = some (.int .i64 ((rd_T103 l0_2 x4_1).f2)) ∧ w'.cell? ⟨gb198, 3, none⟩ = some (.string ((rd_T103 l0_2 x4_1).f3)) ∧ w'.cell? ⟨gb198, 4, none⟩ = some (.slice (some ad201) ((rd_T103 l0_2 x4_1).f4).length c197_4) ∧ w'.cell? ⟨gb192, 0, none⟩ = some (.int .i64 a0_0) ∧ w'.cell? ⟨gb192, 1, none⟩ = some (.int .i64 a0_1) ∧ w'.cell? ⟨gb192, 2, none⟩ = some (.slice (some ad197) l0_2.length c0_2) ∧ w'.cell? (ad201.add (x6_3).toNat) = some (.int .i64 (rd ((rd_T103 l0_2 x4_1).f4) x6_3)) ∧ w'.cell? (ad201.add (x6_3).toNat) = some (.int .i64 (rd ((rd_T103 l0_2 x4_1).f4) x6_3)) ∧ w'.cell? (ad201.add (x6_3).toNat) = some (.int .i64 (rd ((rd_T103 l0_2 x4_1).f4) x6_3))) (ds := []) #[false, false, false, false, false, false, false, false, false, false, false, false, false, false, false, false, false, false, false, false, false, false, false, false, false, false, false] (by kernel_rfl) rfl rfl ⟨(blk_cell BK198.out 0).trans rfl, (blk_cell BK198.out 1).trans rfl, (blk_cell BK198.out 2).trans rfl, (blk_cell BK198.out 3).trans rfl, (blk_cell BK198.out 4).trans rfl, (blk_cell BK192.out 0).trans rfl, (blk_cell BK192.out 1).trans rfl, (blk_cell BK192.out 2).trans rfl, Xn hw201_0, Xn hw202_0, Xn hw204_0⟩ (fun hHeld => ?_); refine with_tabW spec_l02Nodes.tab11 spec_l02Nodes.bits11 (fun HT_ HW_ => ?_)
   generalize wr.drew = w42 at HO_3 BK192 BK198 HB hx201_0 hx202_0 hx204_0 hHeld ⊢
   refine Xpu 0 48 (XW.bs 27 1) HT_.out ?_
   refine Xpu 2 50 (XW.bs 27 5) HT_.out ?_
   refine Xpu 5 53 (XW.bs 27 37) HT_.out ?_
   refine Xta 1 49 (XW.bs 27 39) HT_.out HW_.out hHeld ?_
   refine Xpu 3 51 (XW.bs 27 47) HT_.out ?_
   refine Xta 4 52 (XW.bs 27 63) HT_.out HW_.out hHeld ?_
   refine Xta 6 54 (XW.bs 27 127) HT_.out HW_.out hHeld ?_
   refine Xpu 7 55 (XW.bs 27 255) HT_.out ?_
   refine Xpu 8 56 (XW.bs 27 511) HT_.out ?_
   refine Xpu 9 57 (XW.bs 27 1023) HT_.out ?_
   refine Xpu 10 58 (XW.bs 27 2047) HT_.out ?_
   refine Xpu 12 60 (XW.bs 27 6143) HT_.out ?_
   refine Xta 11 59 (XW.bs 27 8191) HT_.out HW_.out hHeld ?_
   refine Xpu 13 61 (XW.bs 27 16383) HT_.out ?_
   refine Xta 14 62 (XW.bs 27 32767) HT_.out HW_.out hHeld ?_
   refine one_ (i := 15) (N := some 63) (XW.bs 27 65535) rfl rfl (one_of HT_.out (by kernel_rfl)) (by decide) (fun K hK => ?_)
   refine goes_ Try.func106 (by kernel_rfl) rfl #[.slice Ao43 x3_3.length co43, .int .i64 (rd ((rd_T103 l0_2 x4_1).f4) x6_3)] (by rfl) rfl rfl (by (try simp only [List.map_toArray, List.map_cons, List.map_nil]); first | done | rfl | (simp only [List.length_drop, List.length_take]; rfl)) ?_
   with_reducible refine (spec_l02Has.calls k3 _ _ x3_3 (rd ((rd_T103 l0_2 x4_1).f4) x6_3) false _ ?side1 ?side2 A32.out).mono ?_
   (case side1 => repeat (first | exact (Kd.R_reads' HO_3.out).2.2 | (with_reducible first | refine Kd.C_alloc ?_ _ | refine Kd.C_drewN ?_ _ | refine Kd.C_drew ?_)))
   (case side2 => exact (Kd.R_reads' HO_3.out).2.1)
   rintro e w' ⟨rfl, ⟨nd, rfl⟩⟩
   refine ⟨_, rfl, ?_⟩
   refine hK.out _ _ ⟨(blk_cell BK198.out 0).trans rfl, (blk_cell BK198.out 1).trans rfl, (blk_cell BK198.out 2).trans rfl, (blk_cell BK198.out 3).trans rfl, (blk_cell BK198.out 4).trans rfl, (blk_cell BK192.out 0).trans rfl, (blk_cell BK192.out 1).trans rfl, (blk_cell BK192.out 2).trans rfl, Xn hw201_0, Xn hw202_0, Xn hw204_0⟩ (fun hHeld => ?_)
   clear hK K
   refine Xno ?_
   refine Xpu 16 64 (XW.bs 27 131071) HT_.out ?_
   refine Xpu 17 65 (XW.bs 27 262143) HT_.out ?_
   refine Xpu 19 67 (XW.bs 27 786431) HT_.out ?_
   refine Xpu 21 69 (XW.bs 27 2883583) HT_.out ?_
   refine Xta 18 66 (XW.bs 27 3145727) HT_.out HW_.out hHeld ?_
   refine Xta 20 68 (XW.bs 27 4194303) HT_.out HW_.out hHeld ?_
   refine Xpu 22 70 (XW.bs 27 8388607) HT_.out ?_
   refine Xta 23 71 (XW.bs 27 16777215) HT_.out HW_.out hHeld ?_
   refine one_ (i := 24) (N := some 72) (XW.bs 27 33554431) rfl rfl (one_of HT_.out (by kernel_rfl)) (by decide) (fun K hK => ?_)
   refine goes_ Try.func75 (by kernel_rfl) rfl #[.agg #[.int .i64 a0_0, .int .i64 a0_1, .slice (some ad197) l0_2.length c0_2], .int .i64 (rd ((rd_T103 l0_2 x4_1).f4) x6_3)] (by rfl) rfl rfl (by (try simp only [List.map_toArray, List.map_cons, List.map_nil]); first | done | rfl | (simp only [List.length_drop, List.length_take]; rfl)) ?_
   with_reducible refine (spec_l02At.calls k3 a0_0 a0_1 _ _ l0_2 (rd ((rd_T103 l0_2 x4_1).f4) x6_3) t205 _ ?side1 ?side2 A38.out).mono ?_
   (case side1 => exact Xc HR0_2)
   (case side2 => exact HC0_2.out)
   rintro e w44 ⟨rfl, hb⟩
   refine ⟨_, rfl, ?_⟩
   replace HO_3 := Aside0.mk (Kd.R_below (Xq HO_3) hb)
   replace BK192 := Xbb BK192 hb
   replace BK198 := Xbb BK198 hb
   replace HB := Aside0.mk (below_step Xi hb)
   (try clear hb)
   (try clear hb2)
   (try clear hk)
   (try clear hi)
   refine hK.out _ _ ⟨(blk_cell BK198.out 0).trans rfl, (blk_cell BK198.out 1).trans rfl, (blk_cell BK198.out 2).trans rfl, (blk_cell BK198.out 3).trans rfl, (blk_cell BK198.out 4).trans rfl, (blk_cell BK192.out 0).trans rfl, (blk_cell BK192.out 1).trans rfl, (blk_cell BK192.out 2).trans rfl, Xn hw201_0, Xn hw202_0, Xn hw204_0⟩ (fun hHeld => ?_)
   clear hK K
   refine Xno ?_
   refine Xpu 25 73 (XW.bs 27 67108863) HT_.out ?_
   refine Xpu 26 74 (XW.bs 27 134217727) HT_.out ?_
   refine done_ (done_of HT_.out (by kernel_rfl)) ?_
   go_upto_if 74 with (fail)
   have H := HC39.out
   clear HC39
   obtain ⟨c45b0, H⟩ | ⟨c45b0, H⟩ := Xit H
   ·(first | rw [c45b0] | (simp only [i64_w, i32_w]; rw [c45b0]) | skip)
    obtain rfl := Option.some.inj H
    go_wp2
    go_ret
    exact ⟨Xe, Xi⟩
   (first | rw [c45b0] | (simp only [i64_w, i32_w]; rw [c45b0]) | skip)
   obtain ⟨c46, H⟩ := Xif H
   have LMc46 := Aside0.mk c46
   clear c46
   obtain ⟨y207, hy207⟩ : ∃ y_ : List Int, y_ = (x3_3 ++ [rd ((rd_T103 l0_2 x4_1).f4) x6_3]) := ⟨_, rfl⟩
   replace H : (spec_l02Nodes.l1 k3 y207 x4_1 (wrap64 (x6_3 + 1)) a0_0 a0_1 l0_2 ((rd_T103 l0_2 x4_1).f0) ((rd_T103 l0_2 x4_1).f1) ((rd_T103 l0_2 x4_1).f2) ((rd_T103 l0_2 x4_1).f3) ((rd_T103 l0_2 x4_1).f4)) = some r := by first | (rw [hy207]; with_reducible exact H) | (have H2_ := (Option.bind_some _ _).symm.trans H; rw [hy207]; with_reducible exact H2_) | (have H2_ := (Option.bind_some _ _).symm.trans H; with_reducible exact H2_) | with_reducible exact H | (rw [hy207]; exact H) | exact H
   have Ny207 := Aside0.mk hy207
   clear hy207
   have H' := Aside0.mk H
   clear H
   have hnb47 := NB198_192.out
   have hnc47 := NB192_198.out
   obtain ⟨hcz48_0, hcz48_1, hcz48_2, hcz48_3, hcz48_4⟩ := Xc5 BK198
   obtain ⟨hfz48_0, hfz48_1, hfz48_2, hfz48_3, hfz48_4⟩ := Xf5 BK198
   have p206 : 0 ≤ (x6_3 : Int) := of_decide_eq_true Xa
   have q206 : x6_3 < (((rd_T103 l0_2 x4_1).f4).length : Int) := of_decide_eq_true Xa
   obtain ⟨ad206, e206, hx206_0⟩ := Kd.at_int HR197_4.out x6_3 p206 q206
   obtain rfl : ad201 = ad206 := (by injection e206)
   replace hx206_0 := Xm HB hx206_0
   replace p206 := eq_true p206
   replace q206 := eq_true q206
   go_wp2_with (first | ((with_reducible refine gate_builtin (b := .append) (xs := #[.tmp 75, .tmp 81]) rfl ?_); at_builtin; refine Kd.R_append (Kd.int .i64) (w0 := w) w.heap.size rfl (.tmp 75) (.tmp 81) 39 3 (.int .i64 0) 8 rfl Try.underlying39 info3 rfl (by decide) (by omega) (.slice Ao43 x3_3.length co43) x3_3 (rd ((rd_T103 l0_2 x4_1).f4) x6_3) [.int .i64 (rd ((rd_T103 l0_2 x4_1).f4) x6_3)] (fun _ => True) (fun _ => False) rfl rfl ?aP (fun _ hk => hk.elim) ?aF ?aO ?aB ?aS ?aL ?_; (case aP => exact rfl); (case aB => exact Xi); (case aF => exact (fun _ _ => trivial)); (case aO => exact (Xq HO_3)); (case aS => exact (below_size Xi)); (case aL => have := LMc46.out; omega); intro v208 w49 ho hb hg hat; rw [← Ny207.out] at ho; replace BK192 := Aside0.mk (blk_grown (g := gb192) (o := .cells #[.int .i64 a0_0, .int .i64 a0_1, .slice (some ad197) l0_2.length c0_2] 65 (0, 0)) (Xq' BK192) hg (Kd.R_ne HO_3.out BK192.out (by decide))); replace BK198 := Aside0.mk (blk_grown (g := gb198) (o := .cells #[.int .i64 ((rd_T103 l0_2 x4_1).f0), .int .i64 ((rd_T103 l0_2 x4_1).f1), .int .i64 ((rd_T103 l0_2 x4_1).f2), .string ((rd_T103 l0_2 x4_1).f3), .slice (some ad201) ((rd_T103 l0_2 x4_1).f4).length c197_4] 103 (0, 0)) (Xq' BK198) hg (Kd.R_ne HO_3.out BK198.out (by decide))); replace HB := Aside0.mk (hb); have HO209 := Aside0.mk (ho); clear HO_3; clear ho hb hg hat))
   go_roundg k3
   case measure => have := HK1.out; have := HJ6.out; have := HK3.out; omega
   case rel => exact ⟨(y207), (wrap64 (x6_3 + 1)), Xr, H', ⟨by have := HK1.out; have := HJ6.out; have := HK3.out; omega⟩, (Xp' HO209), (Xp BK192), (Xp BK198), ⟨Xi⟩⟩
  have H' := Aside0.mk H
  clear H
  have hnb50 := NB198_192.out
  have hnc50 := NB192_198.out
  obtain ⟨hcz51_0, hcz51_1, hcz51_2, hcz51_3, hcz51_4⟩ := Xc5 BK198
  obtain ⟨hfz51_0, hfz51_1, hfz51_2, hfz51_3, hfz51_4⟩ := Xf5 BK198
  go_wp2
  go_roundg k3
  case measure => have := HK1.out; have := HJ6.out; have := HK3.out; omega
  case rel => exact ⟨(x3_3), (wrap64 (x4_1 + 1)), Xr, H', ⟨by have := HK1.out; have := HJ6.out; have := HK3.out; omega⟩, (Xp' HO_3), (Xp BK192), ⟨Xi⟩⟩
 obtain ⟨c52, H⟩ | ⟨c52, H⟩ := Xiu H
 ·have c52b0 : ((x3_1.length : Int) == (wrap64 ((l0_2.length : Int) - 1))) = true := beq_iff_eq.mpr c52
  have c52b1 : ((x3_1.length : Int) != (wrap64 ((l0_2.length : Int) - 1))) = false := bne_eq_false_iff_eq.mpr c52
  clear c52
  obtain ⟨t196, A53, H⟩ := Xbi H
  (try dsimp only at H)
  obtain rfl := Option.some.inj H
  obtain ⟨hcz54_0, hcz54_1, hcz54_2⟩ := Xc3 BK192
  obtain ⟨hfz54_0, hfz54_1, hfz54_2⟩ := Xf3 BK192
  obtain ⟨Ao55, co55, eo55⟩ := Kd.R_slice HO_3.out
  subst eo55
  go_wp2_with (first | (go_at_call 75; (with_reducible refine (spec_l02At.calls k1 a0_0 a0_1 _ _ l0_2 a0_0 t196 _ ?side1 ?side2 A53.out).mono ?_); (case side1 => exact Xc HR0_2); (case side2 => exact HC0_2.out); rintro e w56 ⟨rfl, hb⟩; replace HO_3 := Aside0.mk (Kd.R_below (Xq HO_3) hb); replace BK192 := Xbb BK192 hb; replace HB := Aside0.mk (below_step Xi hb); clear hb))
  go_ret
  exact ⟨Xe, Xi⟩
 have c52b0 : ((x3_1.length : Int) == (wrap64 ((l0_2.length : Int) - 1))) = false := beq_eq_false_iff_ne.mpr c52
 have c52b1 : ((x3_1.length : Int) != (wrap64 ((l0_2.length : Int) - 1))) = true := bne_iff_ne.mpr c52
 obtain rfl := Option.some.inj H
 obtain ⟨hcz57_0, hcz57_1, hcz57_2⟩ := Xc3 BK192
 obtain ⟨hfz57_0, hfz57_1, hfz57_2⟩ := Xf3 BK192
 obtain ⟨Ao58, co58, eo58⟩ := Kd.R_slice HO_3.out
 subst eo58
 go_wp2
 go_ret
 exact ⟨Xe, Xi⟩
def spec_l02Parent.l0 : Nat → Int → Int → Int → Int → List (S103) → Option (Int)
 | 0, _, _, _, _, _ => none
 | k + 1, x1, x5, x211000, x211001, x211002 => if x5 < (x211002.length : Int) then (if 0 ≤ x5 then ((spec_l02Has.f k ((rd_T103 x211002 x5).f4) x1).bind fun t212 => (if t212 = true then (some ((rd_T103 x211002 x5).f0)) else (spec_l02Parent.l0 k x1 (wrap64 (x5 + 1)) x211000 x211001 x211002))) else (none)) else (some 0)
def spec_l02Parent.f (k : Nat) (a0_0 : Int) (a0_1 : Int) (l0_2 : List (S103)) (a1 : Int) : Option (Int) := spec_l02Parent.l0 k a1 0 a0_0 a0_1 l0_2
theorem spec_l02Parent.calls (k : Nat) (a0_0 : Int) (a0_1 : Int) (A0_2 : Option Addr) (c0_2 : Nat) (l0_2 : List (S103)) (a1 : Int) (r : Int) (w : World) (hr0_2 : Kd.C k103 w A0_2 l0_2.length l0_2) (hc0_2 : l0_2.length ≤ c0_2) (h : spec_l02Parent.f k a0_0 a0_1 l0_2 a1 = some r) :
  Calls Try.prog 154 #[.agg #[.int .i64 a0_0, .int .i64 a0_1, .slice A0_2 l0_2.length c0_2], .int .i64 a1] w fun e w' => e = .returned (.int .i64 r) ∧ Below w.heap.size w w' := by
 have hu65 := Try.underlying65
 have HR0_2 := Aside0.mk hr0_2
 have HC0_2 := Aside0.mk hc0_2
 clear hr0_2 hc0_2
 have HB := Aside0.mk (Below.refl w.heap.size w)
 have H : (spec_l02Parent.l0 k a1 0 a0_0 a0_1 l0_2) = some r := h
 clear h
 have H' := Aside0.mk H
 clear H
 go_enter Try.func154, Try.ntmps154
 go_wp2_with (first | ((with_reducible refine gate_dst (N := 2) rfl ?_); refine Xbox 2 #[.int .i64 a0_0, .int .i64 a0_1, .slice A0_2 l0_2.length c0_2] 65 ?_; intro gb210 hg w3 hbox hb; have BK210 := Aside0.mk (hbox); have GE210 := Xge hg Xi; replace HB := Aside0.mk (below_step Xi hb); clear hb hbox hg))
 go_loopg [5] k (fun kq v5 w' => ∃ (x5_1 : Int), v5 = .int .i64 x5_1 ∧ Aside0 (spec_l02Parent.l0 kq a1 x5_1 a0_0 a0_1 l0_2 = some r) ∧ Aside0 (kq ≤ k) ∧ Aside0 (w'.heap[gb210]? = some (.cells #[.int .i64 a0_0, .int .i64 a0_1, (.slice A0_2 l0_2.length c0_2)] 65 (0, 0))) ∧ Aside0 (Below w.heap.size w w'))
 case atStart => exact ⟨(0), Xr, H', Xkr, BK210, ⟨Xi⟩⟩
 clear H'
 obtain ⟨x5_1, rfl, HA, HK1, BK210, HB⟩ := hrel
 cases gk with | zero => cases HA.out | succ k1 => ?_
 have H := HA.out
 clear HA
 simp only [spec_l02Parent.l0] at H
 obtain ⟨c4b0, H⟩ | ⟨c4b0, H⟩ := Xit H
 ·obtain ⟨c5b0, H⟩ := Xid H
  obtain ⟨t212, A6, H⟩ := Xbi H
  (try dsimp only at H)
  have HC7 := Aside0.mk H
  clear H
  obtain ⟨hcz8_0, hcz8_1, hcz8_2⟩ := Xc3 BK210
  obtain ⟨ad211, A211_4, c211_4, e211, p211, q211, hx211_0, hx211_1, hx211_2, hx211_3, hx211_4, HC211_4, HR211_4⟩ := at_B103 HR0_2 x5_1 Xa Xa HB
  cases e211
  go_upto_if 20 with (first | ((with_reducible refine gate_callee (f := 106) rfl ?_); refine Xgo 20 Try.func106 #[.slice A211_4 ((rd_T103 l0_2 x5_1).f4).length c211_4, .int .i64 a1] ?_; (with_reducible refine (spec_l02Has.calls k1 _ _ ((rd_T103 l0_2 x5_1).f4) a1 t212 _ ?side1 ?side2 A6.out).mono ?_); (case side1 => exact Xc HR211_4); (case side2 => exact HC211_4.out); rintro e w' ⟨rfl, ⟨nd, rfl⟩⟩; refine ⟨_, rfl, ?_⟩))
  have H := HC7.out
  clear HC7
  by_cases c9 : t212 = true
  ·subst c9
   (first | rw [if_pos rfl] at H | skip)
   obtain rfl := Option.some.inj H
   obtain ⟨hcz10_0, hcz10_1, hcz10_2⟩ := Xc3 BK210
   obtain ⟨ad213, A213_4, c213_4, e213, p213, q213, hx213_0, hx213_1, hx213_2, hx213_3, hx213_4, HC213_4, HR213_4⟩ := at_B103 HR0_2 x5_1 Xa Xa HB
   obtain rfl : ad211 = ad213 := (by injection e213)
   go_wp2
   go_ret
   exact ⟨Xe, Xi⟩
  replace c9 := Bool.eq_false_iff.mpr c9
  subst c9
  (first | rw [if_neg (show ¬ (false = true) by decide)] at H | skip)
  have H' := Aside0.mk H
  clear H
  go_wp2
  go_roundg k1
  case measure => have := HK1.out; omega
  case rel => exact ⟨(wrap64 (x5_1 + 1)), Xr, H', Xk1, BK210, ⟨Xi⟩⟩
 obtain rfl := Option.some.inj H
 obtain ⟨hcz11_0, hcz11_1, hcz11_2⟩ := Xc3 BK210
 go_wp2
 go_ret
 exact ⟨Xe, Xi⟩
mutual
def spec_l02Reach.l0 : Nat → Int → Int → Int → List (S103) → Option (Bool)
 | 0, _, _, _, _ => none
 | k + 1, x3, x215000, x215001, x215002 => if x3 < (x215002.length : Int) then (if 0 ≤ x3 then (spec_l02Reach.l1 k x3 ((rd_T103 x215002 x3).f0) 0 x215000 x215001 x215002) else (none)) else (some true)
def spec_l02Reach.l1 : Nat → Int → Int → Int → Int → Int → List (S103) → Option (Bool)
 | 0, _, _, _, _, _, _ => none
 | k + 1, x3, x4, x5, x215000, x215001, x215002 => if x4 = x215000 then (spec_l02Reach.l0 k (wrap64 (x3 + 1)) x215000 x215001 x215002) else (if x4 > 0 then (if x5 ≤ (x215002.length : Int) then ((spec_l02Parent.f k x215000 x215001 x215002 x4).bind fun t216 => (spec_l02Reach.l1 k x3 t216 (wrap64 (x5 + 1)) x215000 x215001 x215002)) else (some false)) else (some false))
end
def spec_l02Reach.f (k : Nat) (a0_0 : Int) (a0_1 : Int) (l0_2 : List (S103)) : Option (Bool) := spec_l02Reach.l0 k 0 a0_0 a0_1 l0_2
theorem spec_l02Reach.calls (k : Nat) (a0_0 : Int) (a0_1 : Int) (A0_2 : Option Addr) (c0_2 : Nat) (l0_2 : List (S103)) (r : Bool) (w : World) (hr0_2 : Kd.C k103 w A0_2 l0_2.length l0_2) (hc0_2 : l0_2.length ≤ c0_2) (h : spec_l02Reach.f k a0_0 a0_1 l0_2 = some r) :
  Calls Try.prog 128 #[.agg #[.int .i64 a0_0, .int .i64 a0_1, .slice A0_2 l0_2.length c0_2]] w fun e w' => e = .returned (.bool r) ∧ Below w.heap.size w w' := by
 have hu65 := Try.underlying65
 have HR0_2 := Aside0.mk hr0_2
 have HC0_2 := Aside0.mk hc0_2
 clear hr0_2 hc0_2
 have HB := Aside0.mk (Below.refl w.heap.size w)
 have H : (spec_l02Reach.l0 k 0 a0_0 a0_1 l0_2) = some r := h
 clear h
 have H' := Aside0.mk H
 clear H
 go_enter Try.func128, Try.ntmps128
 go_wp2_with (first | ((with_reducible refine gate_dst (N := 1) rfl ?_); (try (refine gate_guard (by rfl) ?_; dsimp only)); refine Xbox 1 #[.int .i64 a0_0, .int .i64 a0_1, .slice A0_2 l0_2.length c0_2] 65 ?_; intro gb214 hg w2 hbox hb; have BK214 := Aside0.mk (hbox); have GE214 := Xge hg Xi; replace HB := Aside0.mk (below_step Xi hb); clear hb hbox hg))
 go_loopg [3] k (fun kq v3 w' => ∃ (x3_1 : Int), v3 = .int .i64 x3_1 ∧ Aside0 (spec_l02Reach.l0 kq x3_1 a0_0 a0_1 l0_2 = some r) ∧ Aside0 (kq ≤ k) ∧ Aside0 (w'.heap[gb214]? = some (.cells #[.int .i64 a0_0, .int .i64 a0_1, (.slice A0_2 l0_2.length c0_2)] 65 (0, 0))) ∧ Aside0 (Below w.heap.size w w'))
 case atStart => exact ⟨(0), Xr, H', Xkr, BK214, ⟨Xi⟩⟩
 clear H'
 obtain ⟨x3_1, rfl, HA, HK1, BK214, HB⟩ := hrel
 cases gk with | zero => cases HA.out | succ k1 => ?_
 have H := HA.out
 clear HA
 simp only [spec_l02Reach.l0] at H
 obtain ⟨c3b0, H⟩ | ⟨c3b0, H⟩ := Xit H
 ·obtain ⟨c4b0, H⟩ := Xid H
  have H' := Aside0.mk H
  clear H
  obtain ⟨hcz5_0, hcz5_1, hcz5_2⟩ := Xc3 BK214
  obtain ⟨ad215, A215_4, c215_4, e215, p215, q215, hx215_0, hx215_1, hx215_2, hx215_3, hx215_4, HC215_4, HR215_4⟩ := at_B103 HR0_2 x3_1 Xa Xa HB
  cases e215
  go_wp2
  go_loopg [4, 5] k1 (fun kq v4 v5 w' => ∃ (x4_2 : Int) (x5_2 : Int), v4 = .int .i64 x4_2 ∧ v5 = .int .i64 x5_2 ∧ Aside0 (spec_l02Reach.l1 kq x3_1 x4_2 x5_2 a0_0 a0_1 l0_2 = some r) ∧ Aside0 (kq ≤ k1) ∧ Aside0 (w'.heap[gb214]? = some (.cells #[.int .i64 a0_0, .int .i64 a0_1, (.slice (some ad215) l0_2.length c0_2)] 65 (0, 0))) ∧ Aside0 (Below w.heap.size w w'))
  case atStart => exact ⟨((rd_T103 l0_2 x3_1).f0), (0), Xr, Xr, H', Xkr, BK214, ⟨Xi⟩⟩
  clear H'
  (try clear c3); (try clear c3b0); (try clear c4); (try clear c4b0); (try clear hcz5_0); (try clear hcz5_1); (try clear hcz5_2); (try clear hx215_0); (try clear hx215_1); (try clear hx215_2); (try clear hx215_3); (try clear hx215_4); (try clear p215); (try clear q215)
  obtain ⟨x4_2, x5_2, rfl, rfl, HA, HK2, BK214, HB⟩ := hrel
  cases gk with | zero => cases HA.out | succ k2 => ?_
  have H := HA.out
  clear HA
  simp only [spec_l02Reach.l1] at H
  obtain ⟨c6, H⟩ | ⟨c6, H⟩ := Xiu H
  ·have c6b0 : (x4_2 == a0_0) = true := beq_iff_eq.mpr c6
   have c6b1 : (x4_2 != a0_0) = false := bne_eq_false_iff_eq.mpr c6
   clear c6
   have H' := Aside0.mk H
   clear H
   obtain ⟨hcz7_0, hcz7_1, hcz7_2⟩ := Xc3 BK214
   go_wp2
   go_roundg k2
   case measure => have := HK1.out; have := HK2.out; omega
   case rel => exact ⟨(wrap64 (x3_1 + 1)), Xr, H', ⟨by have := HK1.out; have := HK2.out; omega⟩, BK214, ⟨Xi⟩⟩
  have c6b0 : (x4_2 == a0_0) = false := beq_eq_false_iff_ne.mpr c6
  have c6b1 : (x4_2 != a0_0) = true := bne_iff_ne.mpr c6
  obtain ⟨c8, H⟩ | ⟨c8, H⟩ := Xiu H
  ·have c8b0 : decide (0 < x4_2) = true := decide_eq_true c8
   clear c8
   obtain ⟨c9b0, H⟩ | ⟨c9b0, H⟩ := Xit H
   ·obtain ⟨t216, A10, H⟩ := Xbi H
    (try dsimp only at H)
    have H' := Aside0.mk H
    clear H
    obtain ⟨hcz11_0, hcz11_1, hcz11_2⟩ := Xc3 BK214
    go_wp2_with (first | ((with_reducible refine gate_callee (f := 154) rfl ?_); refine Xgo 36 Try.func154 #[.agg #[.int .i64 a0_0, .int .i64 a0_1, .slice (some ad215) l0_2.length c0_2], .int .i64 x4_2] ?_; (with_reducible refine (spec_l02Parent.calls k2 a0_0 a0_1 _ _ l0_2 x4_2 t216 _ ?side1 ?side2 A10.out).mono ?_); (case side1 => exact Xc HR0_2); (case side2 => exact HC0_2.out); rintro e w12 ⟨rfl, hb⟩; refine ⟨_, rfl, ?_⟩; replace BK214 := Xbb BK214 hb; replace HB := Aside0.mk (below_step Xi hb); clear hb))
    go_roundg k2
    case measure => have := HK1.out; have := HK2.out; omega
    case rel => exact ⟨(t216), (wrap64 (x5_2 + 1)), Xr, Xr, H', ⟨by have := HK1.out; have := HK2.out; omega⟩, BK214, ⟨Xi⟩⟩
   obtain rfl := Option.some.inj H
   obtain ⟨hcz13_0, hcz13_1, hcz13_2⟩ := Xc3 BK214
   go_wp2
   go_ret
   exact ⟨Xe, Xi⟩
  have c8b0 : decide (0 < x4_2) = false := decide_eq_false c8
  clear c8
  obtain rfl := Option.some.inj H
  obtain ⟨hcz14_0, hcz14_1, hcz14_2⟩ := Xc3 BK214
  go_wp2
  go_ret
  exact ⟨Xe, Xi⟩
 obtain rfl := Option.some.inj H
 obtain ⟨hcz15_0, hcz15_1, hcz15_2⟩ := Xc3 BK214
 go_wp2
 go_ret
 exact ⟨Xe, Xi⟩
def spec_l02OK.f (k : Nat) (a0_0 : Int) (a0_1 : Int) (l0_2 : List (S103)) : Option (Bool) := (spec_l01In.f (l0_2.length : Int) 1 40).bind fun t218 => (if t218 = true then ((spec_l01In.f a0_1 2 999999).bind fun t219 => (if t219 = true then ((spec_l02Nodes.f k a0_0 a0_1 l0_2).bind fun t220 => (if t220 = true then ((spec_l02Reach.f k a0_0 a0_1 l0_2).bind fun t221 => (if t221 = true then ((spec_l02Deep.f k a0_0 a0_1 l0_2 a0_0 6).bind fun t222 => (some (decide (t222 ≤ 6)))) else (some false))) else (some false))) else (some false))) else (some false))
theorem spec_l02OK.calls (k : Nat) (a0_0 : Int) (a0_1 : Int) (A0_2 : Option Addr) (c0_2 : Nat) (l0_2 : List (S103)) (r : Bool) (w : World) (hr0_2 : Kd.C k103 w A0_2 l0_2.length l0_2) (hc0_2 : l0_2.length ≤ c0_2) (h : spec_l02OK.f k a0_0 a0_1 l0_2 = some r) :
  Calls Try.prog 85 #[.agg #[.int .i64 a0_0, .int .i64 a0_1, .slice A0_2 l0_2.length c0_2]] w fun e w' => e = .returned (.bool r) ∧ Below w.heap.size w w' := by
 have hu65 := Try.underlying65
 have HR0_2 := Aside0.mk hr0_2
 have HC0_2 := Aside0.mk hc0_2
 clear hr0_2 hc0_2
 have HB := Aside0.mk (Below.refl w.heap.size w)
 have H : ((spec_l01In.f (l0_2.length : Int) 1 40).bind fun t218 => (if t218 = true then ((spec_l01In.f a0_1 2 999999).bind fun t219 => (if t219 = true then ((spec_l02Nodes.f k a0_0 a0_1 l0_2).bind fun t220 => (if t220 = true then ((spec_l02Reach.f k a0_0 a0_1 l0_2).bind fun t221 => (if t221 = true then ((spec_l02Deep.f k a0_0 a0_1 l0_2 a0_0 6).bind fun t222 => (some (decide (t222 ≤ 6)))) else (some false))) else (some false))) else (some false))) else (some false))) = some r := h
 clear h
 have HC2 := Aside0.mk H
 clear H
 go_enter Try.func85, Try.ntmps85
 go_upto_region 1 with (first | ((with_reducible refine gate_dst (N := 1) rfl ?_); refine Xbox 1 #[.int .i64 a0_0, .int .i64 a0_1, .slice A0_2 l0_2.length c0_2] 65 ?_; intro gb217 hg w3 hbox hb; have BK217 := Aside0.mk (hbox); have GE217 := Xge hg Xi; replace HB := Aside0.mk (below_step Xi hb); clear hb hbox hg))
 have H := HC2.out
 clear HC2
 obtain ⟨t218, A4, H⟩ := Xbi H
 (try dsimp only at H)
 by_cases c5 : t218 = true
 ·subst c5
  (first | rw [if_pos rfl] at H | skip)
  obtain ⟨t219, A6, H⟩ := Xbi H
  (try dsimp only at H)
  by_cases c7 : t219 = true
  ·subst c7
   (first | rw [if_pos rfl] at H | skip)
   obtain ⟨t220, A8, H⟩ := Xbi H
   (try dsimp only at H)
   by_cases c9 : t220 = true
   ·subst c9
    (first | rw [if_pos rfl] at H | skip)
    obtain ⟨t221, A10, H⟩ := Xbi H
    (try dsimp only at H)
    by_cases c11 : t221 = true
    ·subst c11
     (first | rw [if_pos rfl] at H | skip)
     obtain ⟨t222, A12, H⟩ := Xbi H
     (try dsimp only at H)
     obtain rfl := Option.some.inj H
     obtain ⟨hcz13_0, hcz13_1, hcz13_2⟩ := Xc3 BK217
     go_wp2_with (first | ((with_reducible refine gate_callee (f := 105) rfl ?_); refine Xgo 6 Try.func105 #[.int .i64 (l0_2.length : Int), .int .i64 1, .int .i64 40] ?_; (with_reducible refine (spec_l01In.calls (l0_2.length : Int) 1 40 true _ A4.out).mono ?_); rintro e w' ⟨rfl, ⟨nd, rfl⟩⟩; refine ⟨_, rfl, ?_⟩) | (go_at_call 105; (with_reducible refine (spec_l01In.calls a0_1 2 999999 true _ A6.out).mono ?_); rintro e w' ⟨rfl, ⟨nd, rfl⟩⟩) | (go_at_call 127; (with_reducible refine (spec_l02Nodes.calls k a0_0 a0_1 _ _ l0_2 true _ ?side1 ?side2 A8.out).mono ?_); (case side1 => exact Xc HR0_2); (case side2 => exact HC0_2.out); rintro e w14 ⟨rfl, hb⟩; replace BK217 := Xbb BK217 hb; replace HB := Aside0.mk (below_step Xi hb); clear hb; obtain ⟨hcz15_0, hcz15_1, hcz15_2⟩ := Xc3 BK217) | (go_at_call 128; (with_reducible refine (spec_l02Reach.calls k a0_0 a0_1 _ _ l0_2 true _ ?side1 ?side2 A10.out).mono ?_); (case side1 => exact Xc HR0_2); (case side2 => exact HC0_2.out); rintro e w16 ⟨rfl, hb⟩; replace BK217 := Xbb BK217 hb; replace HB := Aside0.mk (below_step Xi hb); clear hb; obtain ⟨hcz17_0, hcz17_1, hcz17_2⟩ := Xc3 BK217) | (go_at_call 87; (with_reducible refine (spec_l02Deep.calls k a0_0 a0_1 _ _ l0_2 a0_0 6 t222 _ ?side1 ?side2 A12.out).mono ?_); (case side1 => exact Xc HR0_2); (case side2 => exact HC0_2.out); rintro e w18 ⟨rfl, hb⟩; replace BK217 := Xbb BK217 hb; replace HB := Aside0.mk (below_step Xi hb); clear hb))
     go_ret
     exact ⟨Xe, Xi⟩
    replace c11 := Bool.eq_false_iff.mpr c11
    subst c11
    (first | rw [if_neg (show ¬ (false = true) by decide)] at H | skip)
    obtain rfl := Option.some.inj H
    obtain ⟨hcz19_0, hcz19_1, hcz19_2⟩ := Xc3 BK217
    go_wp2_with (first | ((with_reducible refine gate_callee (f := 105) rfl ?_); refine Xgo 6 Try.func105 #[.int .i64 (l0_2.length : Int), .int .i64 1, .int .i64 40] ?_; (with_reducible refine (spec_l01In.calls (l0_2.length : Int) 1 40 true _ A4.out).mono ?_); rintro e w' ⟨rfl, ⟨nd, rfl⟩⟩; refine ⟨_, rfl, ?_⟩) | (go_at_call 105; (with_reducible refine (spec_l01In.calls a0_1 2 999999 true _ A6.out).mono ?_); rintro e w' ⟨rfl, ⟨nd, rfl⟩⟩) | (go_at_call 127; (with_reducible refine (spec_l02Nodes.calls k a0_0 a0_1 _ _ l0_2 true _ ?side1 ?side2 A8.out).mono ?_); (case side1 => exact Xc HR0_2); (case side2 => exact HC0_2.out); rintro e w20 ⟨rfl, hb⟩; replace BK217 := Xbb BK217 hb; replace HB := Aside0.mk (below_step Xi hb); clear hb; obtain ⟨hcz21_0, hcz21_1, hcz21_2⟩ := Xc3 BK217) | (go_at_call 128; (with_reducible refine (spec_l02Reach.calls k a0_0 a0_1 _ _ l0_2 false _ ?side1 ?side2 A10.out).mono ?_); (case side1 => exact Xc HR0_2); (case side2 => exact HC0_2.out); rintro e w22 ⟨rfl, hb⟩; replace BK217 := Xbb BK217 hb; replace HB := Aside0.mk (below_step Xi hb); clear hb))
    go_ret
    exact ⟨Xe, Xi⟩
   replace c9 := Bool.eq_false_iff.mpr c9
   subst c9
   (first | rw [if_neg (show ¬ (false = true) by decide)] at H | skip)
   obtain rfl := Option.some.inj H
   obtain ⟨hcz23_0, hcz23_1, hcz23_2⟩ := Xc3 BK217
   go_wp2_with (first | ((with_reducible refine gate_callee (f := 105) rfl ?_); refine Xgo 6 Try.func105 #[.int .i64 (l0_2.length : Int), .int .i64 1, .int .i64 40] ?_; (with_reducible refine (spec_l01In.calls (l0_2.length : Int) 1 40 true _ A4.out).mono ?_); rintro e w' ⟨rfl, ⟨nd, rfl⟩⟩; refine ⟨_, rfl, ?_⟩) | (go_at_call 105; (with_reducible refine (spec_l01In.calls a0_1 2 999999 true _ A6.out).mono ?_); rintro e w' ⟨rfl, ⟨nd, rfl⟩⟩) | (go_at_call 127; (with_reducible refine (spec_l02Nodes.calls k a0_0 a0_1 _ _ l0_2 false _ ?side1 ?side2 A8.out).mono ?_); (case side1 => exact Xc HR0_2); (case side2 => exact HC0_2.out); rintro e w24 ⟨rfl, hb⟩; replace BK217 := Xbb BK217 hb; replace HB := Aside0.mk (below_step Xi hb); clear hb))
   go_ret
   exact ⟨Xe, Xi⟩
  replace c7 := Bool.eq_false_iff.mpr c7
  subst c7
  (first | rw [if_neg (show ¬ (false = true) by decide)] at H | skip)
  obtain rfl := Option.some.inj H
  obtain ⟨hcz25_0, hcz25_1, hcz25_2⟩ := Xc3 BK217
  go_wp2_with (first | ((with_reducible refine gate_callee (f := 105) rfl ?_); refine Xgo 6 Try.func105 #[.int .i64 (l0_2.length : Int), .int .i64 1, .int .i64 40] ?_; (with_reducible refine (spec_l01In.calls (l0_2.length : Int) 1 40 true _ A4.out).mono ?_); rintro e w' ⟨rfl, ⟨nd, rfl⟩⟩; refine ⟨_, rfl, ?_⟩) | (go_at_call 105; (with_reducible refine (spec_l01In.calls a0_1 2 999999 false _ A6.out).mono ?_); rintro e w' ⟨rfl, ⟨nd, rfl⟩⟩))
  go_ret
  exact ⟨Xe, Xi⟩
 replace c5 := Bool.eq_false_iff.mpr c5
 subst c5
 (first | rw [if_neg (show ¬ (false = true) by decide)] at H | skip)
 obtain rfl := Option.some.inj H
 obtain ⟨hcz26_0, hcz26_1, hcz26_2⟩ := Xc3 BK217
 go_wp2_with (first | ((with_reducible refine gate_callee (f := 105) rfl ?_); refine Xgo 6 Try.func105 #[.int .i64 (l0_2.length : Int), .int .i64 1, .int .i64 40] ?_; (with_reducible refine (spec_l01In.calls (l0_2.length : Int) 1 40 false _ A4.out).mono ?_); rintro e w' ⟨rfl, ⟨nd, rfl⟩⟩; refine ⟨_, rfl, ?_⟩))
 go_ret
 exact ⟨Xe, Xi⟩
def spec_l02Ask.f (k : Nat) (a0_0 : Int) (a0_1 : Int) (l0_2 : List (S103)) (a1 : Int) : Option (Int) := (spec_l02OK.f k a0_0 a0_1 l0_2).bind fun t224 => (if t224 = true then ((spec_l02At.f k a0_0 a0_1 l0_2 a1).bind fun t225 => (if t225 < 0 then (some 5) else (some 0))) else (some 1))
theorem spec_l02Ask.calls (k : Nat) (a0_0 : Int) (a0_1 : Int) (A0_2 : Option Addr) (c0_2 : Nat) (l0_2 : List (S103)) (a1 : Int) (r : Int) (w : World) (hr0_2 : Kd.C k103 w A0_2 l0_2.length l0_2) (hc0_2 : l0_2.length ≤ c0_2) (h : spec_l02Ask.f k a0_0 a0_1 l0_2 a1 = some r) :
  Calls Try.prog 74 #[.agg #[.int .i64 a0_0, .int .i64 a0_1, .slice A0_2 l0_2.length c0_2], .int .i64 a1] w fun e w' => e = .returned (.int .i64 r) ∧ Below w.heap.size w w' := by
 have hu65 := Try.underlying65
 have HR0_2 := Aside0.mk hr0_2
 have HC0_2 := Aside0.mk hc0_2
 clear hr0_2 hc0_2
 have HB := Aside0.mk (Below.refl w.heap.size w)
 have H : ((spec_l02OK.f k a0_0 a0_1 l0_2).bind fun t224 => (if t224 = true then ((spec_l02At.f k a0_0 a0_1 l0_2 a1).bind fun t225 => (if t225 < 0 then (some 5) else (some 0))) else (some 1))) = some r := h
 clear h
 obtain ⟨t224, A3, H⟩ := Xbi H
 (try dsimp only at H)
 have HC4 := Aside0.mk H
 clear H
 go_enter Try.func74, Try.ntmps74
 go_upto_if 7 with (first | ((with_reducible refine gate_dst (N := 2) rfl ?_); refine Xbox 2 #[.int .i64 a0_0, .int .i64 a0_1, .slice A0_2 l0_2.length c0_2] 65 ?_; intro gb223 hg w5 hbox hb; have BK223 := Aside0.mk (hbox); have GE223 := Xge hg Xi; replace HB := Aside0.mk (below_step Xi hb); clear hb hbox hg; obtain ⟨hcz6_0, hcz6_1, hcz6_2⟩ := Xc3 BK223) | ((with_reducible refine gate_callee (f := 85) rfl ?_); refine Xgo 6 Try.func85 #[.agg #[.int .i64 a0_0, .int .i64 a0_1, .slice A0_2 l0_2.length c0_2]] ?_; (with_reducible refine (spec_l02OK.calls k a0_0 a0_1 _ _ l0_2 t224 _ ?side1 ?side2 A3.out).mono ?_); (case side1 => exact Xc HR0_2); (case side2 => exact HC0_2.out); rintro e w7 ⟨rfl, hb⟩; refine ⟨_, rfl, ?_⟩; replace BK223 := Xbb BK223 hb; replace HB := Aside0.mk (below_step Xi hb); clear hb))
 have H := HC4.out
 clear HC4
 by_cases c8 : t224 = true
 ·subst c8
  (first | rw [if_pos rfl] at H | skip)
  obtain ⟨t225, A9, H⟩ := Xbi H
  (try dsimp only at H)
  have HC10 := Aside0.mk H
  clear H
  obtain ⟨hcz11_0, hcz11_1, hcz11_2⟩ := Xc3 BK223
  go_upto_if 11 with (first | ((with_reducible refine gate_callee (f := 75) rfl ?_); refine Xgo 10 Try.func75 #[.agg #[.int .i64 a0_0, .int .i64 a0_1, .slice A0_2 l0_2.length c0_2], .int .i64 a1] ?_; (with_reducible refine (spec_l02At.calls k a0_0 a0_1 _ _ l0_2 a1 t225 _ ?side1 ?side2 A9.out).mono ?_); (case side1 => exact Xc HR0_2); (case side2 => exact HC0_2.out); rintro e w12 ⟨rfl, hb⟩; refine ⟨_, rfl, ?_⟩; replace BK223 := Xbb BK223 hb; replace HB := Aside0.mk (below_step Xi hb); clear hb))
  have H := HC10.out
  clear HC10
  obtain ⟨c13b0, H⟩ | ⟨c13b0, H⟩ := Xit H
  ·(first | rw [c13b0] | (simp only [i64_w, i32_w]; rw [c13b0]) | skip)
   obtain rfl := Option.some.inj H
   go_wp2
   go_ret
   exact ⟨Xe, Xi⟩
  (first | rw [c13b0] | (simp only [i64_w, i32_w]; rw [c13b0]) | skip)
  obtain rfl := Option.some.inj H
  go_wp2
  go_ret
  exact ⟨Xe, Xi⟩
 replace c8 := Bool.eq_false_iff.mpr c8
 subst c8
 (first | rw [if_neg (show ¬ (false = true) by decide)] at H | skip)
 obtain rfl := Option.some.inj H
 go_wp2
 go_ret
 exact ⟨Xe, Xi⟩
def spec_l05Kids.l0 : Nat → List Int → Int → Int → Int → List (S103) → Int → Int → Int → ByteArray → List Int → Option (List Int)
 | 0, _, _, _, _, _, _, _, _, _, _ => none
 | k + 1, x5, x6, x227000, x227001, x227002, x228000, x228001, x228002, x228003, x228004 => if x6 < (x228004.length : Int) then (if 0 ≤ x6 then ((spec_l02At.f k x227000 x227001 x227002 (rd x228004 x6)).bind fun t232 => (if 0 ≤ t232 then (if t232 < (x227002.length : Int) then (if x5.length < 17592186044416 then (spec_l05Kids.l0 k (x5 ++ [(rd_T103 x227002 t232).f1]) (wrap64 (x6 + 1)) x227000 x227001 x227002 x228000 x228001 x228002 x228003 x228004) else (none)) else (none)) else (none))) else (none)) else (some x5)
def spec_l05Kids.f (k : Nat) (a0_0 : Int) (a0_1 : Int) (l0_2 : List (S103)) (a1_0 : Int) (a1_1 : Int) (a1_2 : Int) (a1_3 : ByteArray) (l1_4 : List Int) : Option (List Int) := spec_l05Kids.l0 k (([] : List Int)) 0 a0_0 a0_1 l0_2 a1_0 a1_1 a1_2 a1_3 l1_4
def spec_l05Kids.T5 : Bool × List (List Nat × List Nat) := (true, [([], []), ([], []), ([1], [1]), ([], []), ([], []), ([4], [4]), ([], []), ([5, 6], [5, 6]), ([7], [7]), ([3, 8], [3, 8]), ([2, 9], [2, 9]), ([10], [10]), ([11], [11]), ([12], [12]), ([0, 13, 9], [0, 13]), ([14, 14, 0, 1, 2, 3, 4, 5, 6, 7, 8, 9, 10, 11, 12, 13, 14], [0, 14])])
def spec_l05Kids.B5 : List Nat := [0, 0, 2, 0, 0, 16, 0, 112, 240, 504, 1022, 2046, 4094, 8190, 16383, 32767]
theorem spec_l05Kids.tab5 : rtab .any (opsOf Try.f76 5) = spec_l05Kids.T5 := by kernel_rfl
theorem spec_l05Kids.bits5 : waitsOk spec_l05Kids.T5.2 spec_l05Kids.B5 = true := by kernel_rfl
theorem spec_l05Kids.calls (k : Nat) (a0_0 : Int) (a0_1 : Int) (A0_2 : Option Addr) (c0_2 : Nat) (l0_2 : List (S103)) (a1_0 : Int) (a1_1 : Int) (a1_2 : Int) (a1_3 : ByteArray) (A1_4 : Option Addr) (c1_4 : Nat) (l1_4 : List Int) (r : List Int) (w : World) (hr0_2 : Kd.C k103 w A0_2 l0_2.length l0_2) (hc0_2 : l0_2.length ≤ c0_2) (hr1_4 : Kd.C (Kd.int .i64) w A1_4 l1_4.length l1_4) (hc1_4 : l1_4.length ≤ c1_4) (h : spec_l05Kids.f k a0_0 a0_1 l0_2 a1_0 a1_1 a1_2 a1_3 l1_4 = some r) :
  Calls Try.prog 76 #[.agg #[.int .i64 a0_0, .int .i64 a0_1, .slice A0_2 l0_2.length c0_2], .agg #[.int .i64 a1_0, .int .i64 a1_1, .int .i64 a1_2, .string a1_3, .slice A1_4 l1_4.length c1_4]] w fun e w' => ∃ v0_ : Value, e = .returned (v0_) ∧ Kd.R (Kd.int .i64) 3 w' w.heap.size (fun _ => True) v0_ r ∧ Below w.heap.size w w' := by
 have hu65 := Try.underlying65
 have hu103 := Try.underlying103
 have HR0_2 := Aside0.mk hr0_2
 have HC0_2 := Aside0.mk hc0_2
 clear hr0_2 hc0_2
 have HR1_4 := Aside0.mk hr1_4
 have HC1_4 := Aside0.mk hc1_4
 clear hr1_4 hc1_4
 have HB := Aside0.mk (Below.refl w.heap.size w)
 have H : (spec_l05Kids.l0 k (([] : List Int)) 0 a0_0 a0_1 l0_2 a1_0 a1_1 a1_2 a1_3 l1_4) = some r := h
 clear h
 obtain ⟨y228, hy228⟩ : ∃ y_ : List Int, y_ = (([] : List Int)) := ⟨_, rfl⟩
 replace H : (spec_l05Kids.l0 k y228 0 a0_0 a0_1 l0_2 a1_0 a1_1 a1_2 a1_3 l1_4) = some r := by first | (rw [hy228]; with_reducible exact H) | (have H2_ := (Option.bind_some _ _).symm.trans H; rw [hy228]; with_reducible exact H2_) | (have H2_ := (Option.bind_some _ _).symm.trans H; with_reducible exact H2_) | with_reducible exact H | (rw [hy228]; exact H) | exact H
 have Ny228 := Aside0.mk hy228
 clear hy228
 have H' := Aside0.mk H
 clear H
 go_enter Try.func76, Try.ntmps76
 go_wp2_with (first | ((with_reducible refine gate_dst (N := 2) rfl ?_); refine Xbox 2 #[.int .i64 a0_0, .int .i64 a0_1, .slice A0_2 l0_2.length c0_2] 65 ?_; intro gb226 hg w3 hbox hb; have BK226 := Aside0.mk (hbox); have GE226 := Xge hg Xi; replace HB := Aside0.mk (below_step Xi hb); clear hb hbox hg) | ((with_reducible refine gate_dst (N := 3) rfl ?_); refine Xbox 3 #[.int .i64 a1_0, .int .i64 a1_1, .int .i64 a1_2, .string a1_3, .slice A1_4 l1_4.length c1_4] 103 ?_; intro gb227 hg w4 hbox hb; have BK227 := Aside0.mk (hbox); have GE227 := Xge hg Xi; replace HB := Aside0.mk (below_step Xi hb); have NB226_227 := Xnb hg BK226; have NB227_226 := Xns NB226_227; replace BK226 := Xbb BK226 hb; clear hb hbox hg) | ((with_reducible refine gate_dst (N := 7) rfl ?_); refine Kd.R_lit (Kd.int .i64) _ 3 ?hg (N := 7) ?hd (xs := ([] : List Int)) (inner := []) (ok := fun _ => True) (okp := fun _ => True) ?hr ?hp (fun _ hk => hk) trivial (Below.refl _ _) (Nat.le_refl _) (by simp) ?_; (case hd => rfl); (case hg => rfl); (case hr => first | (go_simp; done) | (go_simp; rfl)); (case hp => exact (Reps.none _ _)); intro v229 w5 ho6 hb hg_ hnew_; clear hg_ hnew_; (first | rw [← Ny228.out] at ho6 | (simp only [Int.reduceToNat] at ho6; rw [← Ny228.out] at ho6)); have HO230 := Aside0.mk (Kd.R_lower ho6 (below_size Xi)); replace BK226 := Xbb BK226 hb; replace BK227 := Xbb BK227 hb; replace HB := Aside0.mk (below_step Xi hb); clear hb ho6))
 go_loopg [5, 6] k (fun kq v5 v6 w' => ∃ (x5_1 : List Int) (x6_1 : Int), v6 = .int .i64 x6_1 ∧ Aside0 (spec_l05Kids.l0 kq x5_1 x6_1 a0_0 a0_1 l0_2 a1_0 a1_1 a1_2 a1_3 l1_4 = some r) ∧ Aside0 (kq ≤ k) ∧ Aside0 (Kd.R (Kd.int .i64) 3 w' w.heap.size (fun _ => True) v5 x5_1) ∧ Aside0 (w'.heap[gb226]? = some (.cells #[.int .i64 a0_0, .int .i64 a0_1, (.slice A0_2 l0_2.length c0_2)] 65 (0, 0))) ∧ Aside0 (w'.heap[gb227]? = some (.cells #[.int .i64 a1_0, .int .i64 a1_1, .int .i64 a1_2, .string a1_3, (.slice A1_4 l1_4.length c1_4)] 103 (0, 0))) ∧ Aside0 (Below w.heap.size w w'))
 case atStart => exact ⟨(y228), (0), Xr, H', Xkr, (Xp' HO230), (Xp BK226), (Xp BK227), ⟨Xi⟩⟩
 clear H'
 obtain ⟨x5_1, x6_1, rfl, HA, HK1, HO_5, BK226, BK227, HB⟩ := hrel
 cases gk with | zero => cases HA.out | succ k1 => ?_
 have H := HA.out
 clear HA
 simp only [spec_l05Kids.l0] at H
 obtain ⟨c7b0, H⟩ | ⟨c7b0, H⟩ := Xit H
 ·obtain ⟨c8b0, H⟩ := Xid H
  obtain ⟨t232, A9, H⟩ := Xbi H
  (try dsimp only at H)
  obtain ⟨c10b0, H⟩ := Xid H
  obtain ⟨c11b0, H⟩ := Xid H
  obtain ⟨c12, H⟩ := Xif H
  have LMc12 := Aside0.mk c12
  clear c12
  obtain ⟨y234, hy234⟩ : ∃ y_ : List Int, y_ = (x5_1 ++ [(rd_T103 l0_2 t232).f1]) := ⟨_, rfl⟩
  replace H : (spec_l05Kids.l0 k1 y234 (wrap64 (x6_1 + 1)) a0_0 a0_1 l0_2 a1_0 a1_1 a1_2 a1_3 l1_4) = some r := by first | (rw [hy234]; with_reducible exact H) | (have H2_ := (Option.bind_some _ _).symm.trans H; rw [hy234]; with_reducible exact H2_) | (have H2_ := (Option.bind_some _ _).symm.trans H; with_reducible exact H2_) | with_reducible exact H | (rw [hy234]; exact H) | exact H
  have Ny234 := Aside0.mk hy234
  clear hy234
  have H' := Aside0.mk H
  clear H
  have hnb13 := NB227_226.out
  have hnc13 := NB226_227.out
  obtain ⟨hcz14_0, hcz14_1, hcz14_2, hcz14_3, hcz14_4⟩ := Xc5 BK227
  try go_wp2_with (fail)
  replace HO_5 := Aside0.mk (Kd.R_drew HO_5.out)
  replace BK226 := Aside0.mk (blk_drew BK226.out)
  replace BK227 := Aside0.mk (blk_drew BK227.out)
  replace HB := Aside0.mk (below_drew1 HB.out)
  have p231 : 0 ≤ (x6_1 : Int) := of_decide_eq_true Xa
  have q231 : x6_1 < (l1_4.length : Int) := of_decide_eq_true Xa
  obtain ⟨ad231, e231, hx231_0⟩ := Kd.at_int HR1_4.out x6_1 p231 q231
  have hw231_0 := hx231_0
  cases e231
  replace hx231_0 := Xm HB hx231_0
  replace p231 := eq_true p231
  replace q231 := eq_true q231
  have p233 : 0 ≤ (t232 : Int) := of_decide_eq_true Xa
  have q233 : t232 < (l0_2.length : Int) := of_decide_eq_true Xa
  obtain ⟨ad233, A233_4, c233_4, e233, hx233_0, hx233_1, hx233_2, hx233_3, hx233_4, hl233_4, hi233_4⟩ := at_T103 HR0_2.out t232 p233 q233
  have hw233_4 := hx233_4
  have hw233_3 := hx233_3
  have hw233_2 := hx233_2
  have hw233_1 := hx233_1
  have hw233_0 := hx233_0
  cases e233
  replace hx233_0 := Xm HB hx233_0
  replace hx233_1 := Xm HB hx233_1
  replace hx233_2 := Xm HB hx233_2
  replace hx233_3 := Xm HB hx233_3
  replace hx233_4 := Xm HB hx233_4
  have HR233_4 := Aside0.mk hi233_4
  have HC233_4 := Aside0.mk hl233_4
  clear hi233_4 hl233_4
  replace p233 := eq_true p233
  replace q233 := eq_true q233
  refine start_ (n := 16) (S := fun w' => w'.cell? ⟨gb226, 0, none⟩ = some (.int .i64 a0_0) ∧ w'.cell? ⟨gb226, 1, none⟩ = some (.int .i64 a0_1) ∧ w'.cell? ⟨gb226, 2, none⟩ = some (.slice (some ad233) l0_2.length c0_2) ∧ w'.cell? ⟨gb227, 0, none⟩ = some (.int .i64 a1_0) ∧ w'.cell? ⟨gb227, 1, none⟩ = some (.int .i64 a1_1) ∧ w'.cell? ⟨gb227, 2, none⟩ = some (.int .i64 a1_2) ∧ w'.cell? ⟨gb227, 3, none⟩ = some (.string a1_3) ∧ w'.cell? ⟨gb227, 4, none⟩ = some (.slice (some ad231) l1_4.length c1_4) ∧ w'.cell? (ad231.add (x6_1).toNat) = some (.int .i64 (rd l1_4 x6_1)) ∧ w'.cell? (ad233.add ((t232).toNat * 5)) = some (.int .i64 ((rd_T103 l0_2 t232).f0)) ∧ w'.cell? ⟨(ad233.add ((t232).toNat * 5)).block, (ad233.add ((t232).toNat * 5)).off + 1, none⟩ = some (.int .i64 ((rd_T103 l0_2 t232).f1)) ∧ w'.cell? ⟨(ad233.add ((t232).toNat * 5)).block, (ad233.add ((t232).toNat * 5)).off + 2, none⟩ = some (.int .i64 ((rd_T103 l0_2 t232).f2)) ∧ w'.cell? ⟨(ad233.add ((t232).toNat * 5)).block, (ad233.add ((t232).toNat * 5)).off + 3, none⟩ = some (.string ((rd_T103 l0_2 t232).f3)) ∧ w'.cell? ⟨(ad233.add ((t232).toNat * 5)).block, (ad233.add ((t232).toNat * 5)).off + 4, none⟩ = some (.slice A233_4 ((rd_T103 l0_2 t232).f4).length c233_4)) (ds := []) #[false, false, false, false, false, false, false, false, false, false, false, false, false, false, false, false] (by kernel_rfl) rfl rfl ⟨(blk_cell BK226.out 0).trans rfl, (blk_cell BK226.out 1).trans rfl, (blk_cell BK226.out 2).trans rfl, (blk_cell BK227.out 0).trans rfl, (blk_cell BK227.out 1).trans rfl, (blk_cell BK227.out 2).trans rfl, (blk_cell BK227.out 3).trans rfl, (blk_cell BK227.out 4).trans rfl, Xn hw231_0, Xn hw233_0, Xn hw233_1, Xn hw233_2, Xn hw233_3, Xn hw233_4⟩ (fun hHeld => ?_); refine with_tabW spec_l05Kids.tab5 spec_l05Kids.bits5 (fun HT_ HW_ => ?_)
  generalize wr.drew = w15 at HO_5 BK226 BK227 HB HR233_4 hx231_0 hx233_0 hx233_1 hx233_2 hx233_3 hx233_4 hHeld ⊢
  refine Xpu 0 15 (XW.bs 16 1) HT_.out ?_
  refine Xpu 1 16 (XW.bs 16 3) HT_.out ?_
  refine Xpu 4 19 (XW.bs 16 19) HT_.out ?_
  refine Xpu 6 21 (XW.bs 16 83) HT_.out ?_
  refine Xta 2 17 (XW.bs 16 87) HT_.out HW_.out hHeld ?_
  refine Xta 3 18 (XW.bs 16 95) HT_.out HW_.out hHeld ?_
  refine Xta 5 20 (XW.bs 16 127) HT_.out HW_.out hHeld ?_
  refine Xpu 7 22 (XW.bs 16 255) HT_.out ?_
  refine Xta 8 23 (XW.bs 16 511) HT_.out HW_.out hHeld ?_
  refine one_ (i := 9) (N := some 24) (XW.bs 16 1023) rfl rfl (one_of HT_.out (by kernel_rfl)) (by decide) (fun K hK => ?_)
  refine goes_ Try.func75 (by kernel_rfl) rfl #[.agg #[.int .i64 a0_0, .int .i64 a0_1, .slice (some ad233) l0_2.length c0_2], .int .i64 (rd l1_4 x6_1)] (by rfl) rfl rfl (by (try simp only [List.map_toArray, List.map_cons, List.map_nil]); first | done | rfl | (simp only [List.length_drop, List.length_take]; rfl)) ?_
  with_reducible refine (spec_l02At.calls k1 a0_0 a0_1 _ _ l0_2 (rd l1_4 x6_1) t232 _ ?side1 ?side2 A9.out).mono ?_
  (case side1 => exact Xc HR0_2)
  (case side2 => exact HC0_2.out)
  rintro e w16 ⟨rfl, hb⟩
  refine ⟨_, rfl, ?_⟩
  replace HO_5 := Aside0.mk (Kd.R_below (Xq HO_5) hb)
  replace BK226 := Xbb BK226 hb
  replace BK227 := Xbb BK227 hb
  replace HB := Aside0.mk (below_step Xi hb)
  (try clear hb)
  (try clear hb2)
  (try clear hk)
  (try clear hi)
  refine hK.out _ _ ⟨(blk_cell BK226.out 0).trans rfl, (blk_cell BK226.out 1).trans rfl, (blk_cell BK226.out 2).trans rfl, (blk_cell BK227.out 0).trans rfl, (blk_cell BK227.out 1).trans rfl, (blk_cell BK227.out 2).trans rfl, (blk_cell BK227.out 3).trans rfl, (blk_cell BK227.out 4).trans rfl, Xn hw231_0, Xn hw233_0, Xn hw233_1, Xn hw233_2, Xn hw233_3, Xn hw233_4⟩ (fun hHeld => ?_)
  clear hK K
  refine Xno ?_
  refine Xpu 10 25 (XW.bs 16 2047) HT_.out ?_
  refine Xpu 11 26 (XW.bs 16 4095) HT_.out ?_
  refine Xta 12 27 (XW.bs 16 8191) HT_.out HW_.out hHeld ?_
  refine one_ (i := 13) (N := some 28) (XW.bs 16 16383) rfl rfl (one_of HT_.out (by kernel_rfl)) (by decide) (fun K hK => ?_)
  refine value_ (w1 := ?_) (v := ?_) (by rfl) rfl ?_ ?_
  rotate_left 2
  ·go_simp
   constructor
   ·rfl
   rfl
  refine hK.out _ _ ⟨(blk_cell (blk_alloc BK226.out _) 0).trans rfl, (blk_cell (blk_alloc BK226.out _) 1).trans rfl, (blk_cell (blk_alloc BK226.out _) 2).trans rfl, (blk_cell (blk_alloc BK227.out _) 0).trans rfl, (blk_cell (blk_alloc BK227.out _) 1).trans rfl, (blk_cell (blk_alloc BK227.out _) 2).trans rfl, (blk_cell (blk_alloc BK227.out _) 3).trans rfl, (blk_cell (blk_alloc BK227.out _) 4).trans rfl, (World.cell?_alloc_lt _ _ _ (World.block_lt_of_cell? _ _ (Xn hw231_0))).trans (Xn hw231_0), (World.cell?_alloc_lt _ _ _ (World.block_lt_of_cell? _ _ (Xn hw233_0))).trans (Xn hw233_0), (World.cell?_alloc_lt _ _ _ (World.block_lt_of_cell? _ _ (Xn hw233_1))).trans (Xn hw233_1), (World.cell?_alloc_lt _ _ _ (World.block_lt_of_cell? _ _ (Xn hw233_2))).trans (Xn hw233_2), (World.cell?_alloc_lt _ _ _ (World.block_lt_of_cell? _ _ (Xn hw233_3))).trans (Xn hw233_3), (World.cell?_alloc_lt _ _ _ (World.block_lt_of_cell? _ _ (Xn hw233_4))).trans (Xn hw233_4)⟩ (fun hHeld => ?_)
  clear hK K
  refine Xno ?_
  refine one_ (i := 14) (N := some 29) (XW.bs 16 32767) rfl rfl (one_of HT_.out (by kernel_rfl)) (by decide) (fun K hK => ?_)
  refine Kd.R_append_step (Kd.int .i64) (w0 := w) w.heap.size (by rfl) (.tmp 15) (.tmp 28) 39 3 (.int .i64 0) 8 rfl Try.underlying39 info3 rfl (by decide) (by omega) u5 x5_1 ((rd_T103 l0_2 t232).f1) [.int .i64 ((rd_T103 l0_2 t232).f1)] (fun _ => True) (fun _ => False) rfl rfl ?aP (fun _ hk => hk.elim) ?aF ?aO ?aB ?aS ?aL ?_
  (case aP => exact rfl)
  (case aB => exact Xi)
  (case aF => exact (fun _ _ => trivial))
  (case aO => exact (Xq HO_5))
  (case aS => exact (below_size Xi))
  (case aL => have := LMc12.out; omega)
  intro v235 w17 ho hb hg hat
  rw [← Ny234.out] at ho
  replace BK226 := Aside0.mk (blk_grown (g := gb226) (o := .cells #[.int .i64 a0_0, .int .i64 a0_1, .slice (some ad233) l0_2.length c0_2] 65 (0, 0)) (Xq' BK226) hg (Kd.R_ne HO_5.out BK226.out (by decide)))
  replace BK227 := Aside0.mk (blk_grown (g := gb227) (o := .cells #[.int .i64 a1_0, .int .i64 a1_1, .int .i64 a1_2, .string a1_3, .slice (some ad231) l1_4.length c1_4] 103 (0, 0)) (Xq' BK227) hg (Kd.R_ne HO_5.out BK227.out (by decide)))
  replace HB := Aside0.mk (hb)
  have HO236 := Aside0.mk (ho)
  clear HO_5
  clear ho hb hg hat
  refine hK.out _ _ ⟨(blk_cell BK226.out 0).trans rfl, (blk_cell BK226.out 1).trans rfl, (blk_cell BK226.out 2).trans rfl, (blk_cell BK227.out 0).trans rfl, (blk_cell BK227.out 1).trans rfl, (blk_cell BK227.out 2).trans rfl, (blk_cell BK227.out 3).trans rfl, (blk_cell BK227.out 4).trans rfl, Xn hw231_0, Xn hw233_0, Xn hw233_1, Xn hw233_2, Xn hw233_3, Xn hw233_4⟩ (fun hHeld => ?_)
  clear hK K
  refine Xno ?_
  refine Xpu 15 5 (XW.bs 16 65535) HT_.out ?_
  refine done_ (done_of HT_.out (by kernel_rfl)) ?_
  try go_wp2_with (fail)
  go_roundg k1
  case measure => have := HK1.out; omega
  case rel => exact ⟨(y234), (wrap64 (x6_1 + 1)), Xr, H', Xk1, (Xp' HO236), (Xp BK226), (Xp BK227), ⟨Xi⟩⟩
 obtain rfl := Option.some.inj H
 have hnb18 := NB227_226.out
 have hnc18 := NB226_227.out
 obtain ⟨hcz19_0, hcz19_1, hcz19_2, hcz19_3, hcz19_4⟩ := Xc5 BK227
 go_wp2
 go_ret
 exact ⟨_, Xe, Xq HO_5, Xi⟩
def spec_l03Least.f (a0 : Int) : Option (Int) := if a0 = 0 then (some 1) else (if a0 = 3 then (some 1) else (some 0))
theorem spec_l03Least.calls (a0 : Int) (r : Int) (w : World) (h : spec_l03Least.f a0 = some r) :
  Calls Try.prog 119 #[.int .i64 a0] w fun e w' => e = .returned (.int .i64 r) ∧ Drawn0 w w' := by
 have H : (if a0 = 0 then (some 1) else (if a0 = 3 then (some 1) else (some 0))) = some r := h
 clear h
 obtain ⟨c2, H⟩ | ⟨c2, H⟩ := Xiu H
 ·have c2b0 : (a0 == 0) = true := beq_iff_eq.mpr c2
  have c2b1 : (a0 != 0) = false := bne_eq_false_iff_eq.mpr c2
  clear c2
  obtain rfl := Option.some.inj H
  go_enter Try.func119, Try.ntmps119
  go_wp2
  go_ret
  exact ⟨Xr, Xdr⟩
 have c2b0 : (a0 == 0) = false := beq_eq_false_iff_ne.mpr c2
 have c2b1 : (a0 != 0) = true := bne_iff_ne.mpr c2
 obtain ⟨c3, H⟩ | ⟨c3, H⟩ := Xiu H
 ·have c3b0 : (a0 == 3) = true := beq_iff_eq.mpr c3
  have c3b1 : (a0 != 3) = false := bne_eq_false_iff_eq.mpr c3
  clear c3
  obtain rfl := Option.some.inj H
  go_enter Try.func119, Try.ntmps119
  go_wp2
  go_ret
  exact ⟨Xr, Xdr⟩
 have c3b0 : (a0 == 3) = false := beq_eq_false_iff_ne.mpr c3
 have c3b1 : (a0 != 3) = true := bne_iff_ne.mpr c3
 obtain rfl := Option.some.inj H
 go_enter Try.func119, Try.ntmps119
 go_wp2
 go_ret
 exact ⟨Xr, Xdr⟩
mutual
def spec_l03Match.j0 : Nat → List (S78) → List Int → Int → Int → List Int → Int → Option (Bool)
 | 0, _, _, _, _, _, _ => none
 | k + 1, x0, x1, x6, x7, x239000, x239001 => spec_l03Match.l0 k x0 x1 x6 x7 0 x239000 x239001
def spec_l03Match.l0 : Nat → List (S78) → List Int → Int → Int → Int → List Int → Int → Option (Bool)
 | 0, _, _, _, _, _, _, _ => none
 | k + 1, x0, x1, x6, x7, x8, x239000, x239001 => if x8 ≤ x7 then (if x8 ≥ x6 then (if 1 ≤ (x0.length : Int) then (if 0 ≤ x8 then (if x8 ≤ (x1.length : Int) then ((spec_l03Match.f k (x0.drop 1) (x1.drop (x8 : Int).toNat)).bind fun t245 => (spec_l03Match.j2 k x0 x1 x6 x7 x8 t245 x239000 x239001)) else (none)) else (none)) else (none)) else (spec_l03Match.j2 k x0 x1 x6 x7 x8 false x239000 x239001)) else (some false)
def spec_l03Match.j2 : Nat → List (S78) → List Int → Int → Int → Int → Bool → List Int → Int → Option (Bool)
 | 0, _, _, _, _, _, _, _, _ => none
 | k + 1, x0, x1, x6, x7, x8, x43, x239000, x239001 => if x43 = true then (some true) else (if x8 < x7 then (if 0 ≤ x8 then (if x8 < (x1.length : Int) then ((spec_l02Has.f k x239000 (rd x1 x8)).bind fun t247 => (if t247 = true then (spec_l03Match.l0 k x0 x1 x6 x7 (wrap64 (x8 + 1)) x239000 x239001) else (some false))) else (none)) else (none)) else (spec_l03Match.l0 k x0 x1 x6 x7 (wrap64 (x8 + 1)) x239000 x239001))
def spec_l03Match.f : Nat → List (S78) → List Int → Option (Bool)
 | 0, _, _ => none
 | k + 1, l0, l1 => if (l0.length : Int) = 0 then (some ((l1.length : Int) == 0)) else (if 0 < (l0.length : Int) then ((spec_l03Least.f ((rd_T78 l0 0).f1)).bind fun t239 => (if ((rd_T78 l0 0).f1) < 2 then (spec_l03Match.j0 k l0 l1 t239 (mn (l1.length : Int) 1) ((rd_T78 l0 0).f0) ((rd_T78 l0 0).f1)) else (spec_l03Match.j0 k l0 l1 t239 (l1.length : Int) ((rd_T78 l0 0).f0) ((rd_T78 l0 0).f1)))) else (none))
end
def spec_l03Match.T11 : Bool × List (List Nat × List Nat) := (true, [([], []), ([], []), ([0, 1], [0, 1]), ([2], [2]), ([3], [3]), ([4, 3], [3, 4]), ([3], [3]), ([3], [3]), ([6, 7, 3], [3, 6, 7]), ([5, 8, 3, 3], [3, 5, 8]), ([3, 9], [3, 9])])
def spec_l03Match.B11 : List Nat := [0, 0, 3, 7, 15, 31, 15, 15, 207, 511, 1023]
theorem spec_l03Match.tab11 : rtab .any (opsOf Try.f77 11) = spec_l03Match.T11 := by kernel_rfl
theorem spec_l03Match.bits11 : waitsOk spec_l03Match.T11.2 spec_l03Match.B11 = true := by kernel_rfl
def spec_l03Match.T13 : Bool × List (List Nat × List Nat) := (true, [([], []), ([], []), ([0, 1], [0, 1]), ([2], [2]), ([3], [3]), ([4, 3], [3, 4]), ([3], [3]), ([3], [3]), ([6, 7, 3], [3, 6, 7]), ([8, 3], [3, 8]), ([5, 9, 3, 3], [3, 5, 9]), ([10, 3], [3, 10]), ([3, 11], [3, 11])])
def spec_l03Match.B13 : List Nat := [0, 0, 3, 7, 15, 31, 15, 15, 207, 463, 1023, 2047, 4095]
theorem spec_l03Match.tab13 : rtab .any (opsOf Try.f77 13) = spec_l03Match.T13 := by kernel_rfl
theorem spec_l03Match.bits13 : waitsOk spec_l03Match.T13.2 spec_l03Match.B13 = true := by kernel_rfl
theorem spec_l03Match.calls (k : Nat) : ∀ (A0 : Option Addr) (c0 : Nat) (l0 : List (S78)) (A1 : Option Addr) (c1 : Nat) (l1 : List Int) (r : Bool) (w : World) (hr0 : Kd.C k78 w A0 l0.length l0) (hc0 : l0.length ≤ c0) (hr1 : Kd.C (Kd.int .i64) w A1 l1.length l1) (hc1 : l1.length ≤ c1) (h : spec_l03Match.f k l0 l1 = some r),
  Calls Try.prog 77 #[.slice A0 l0.length c0, .slice A1 l1.length c1] w fun e w' => e = .returned (.bool r) ∧ Below w.heap.size w w' := by
 induction k using Nat.strongRecOn with
 | _ k ih =>
 intro A0 c0 l0 A1 c1 l1 r w hr0 hc0 hr1 hc1 h
 cases k with
 | zero => exact absurd h (by simp [spec_l03Match.f])
 | succ k =>
 simp only [spec_l03Match.f] at h
 have hu78 := Try.underlying78
 have HR0 := Aside0.mk hr0
 have HC0 := Aside0.mk hc0
 clear hr0 hc0
 have HR1 := Aside0.mk hr1
 have HC1 := Aside0.mk hc1
 clear hr1 hc1
 have HB := Aside0.mk (Below.refl w.heap.size w)
 have H : (if (l0.length : Int) = 0 then (some ((l1.length : Int) == 0)) else (if 0 < (l0.length : Int) then ((spec_l03Least.f ((rd_T78 l0 0).f1)).bind fun t239 => (if ((rd_T78 l0 0).f1) < 2 then (spec_l03Match.j0 k l0 l1 t239 (mn (l1.length : Int) 1) ((rd_T78 l0 0).f0) ((rd_T78 l0 0).f1)) else (spec_l03Match.j0 k l0 l1 t239 (l1.length : Int) ((rd_T78 l0 0).f0) ((rd_T78 l0 0).f1)))) else (none))) = some r := h
 clear h
 obtain ⟨c3, H⟩ | ⟨c3, H⟩ := Xiu H
 ·have c3b0 : ((l0.length : Int) == 0) = true := beq_iff_eq.mpr c3
  have c3b1 : ((l0.length : Int) != 0) = false := bne_eq_false_iff_eq.mpr c3
  clear c3
  obtain rfl := Option.some.inj H
  go_enter Try.func77, Try.ntmps77
  go_wp2
  go_ret
  exact ⟨Xe, Xi⟩
 have c3b0 : ((l0.length : Int) == 0) = false := beq_eq_false_iff_ne.mpr c3
 have c3b1 : ((l0.length : Int) != 0) = true := bne_iff_ne.mpr c3
 have c3b2 : ¬ (l0 = []) := fun h_ => c3 (by rw [h_]; rfl)
 obtain ⟨c4, H⟩ | ⟨c4, H⟩ := Xiu H
 ·have c4b0 : decide (0 < (l0.length : Int)) = true := decide_eq_true c4
  have c4b1 : decide (0 < l0.length) = true := decide_eq_true (by omega)
  clear c4
  obtain ⟨t239, A5, H⟩ := Xbi H
  (try dsimp only at H)
  have HC6 := Aside0.mk H
  clear H
  have p237 : 0 ≤ (0 : Int) := (by omega)
  have q237 : 0 < (l0.length : Int) := of_decide_eq_true Xa
  obtain ⟨ad237, A237_0, c237_0, e237, hx237_0, hx237_1, hl237_0, hi237_0⟩ := at_T78 HR0.out 0 p237 q237
  cases e237
  have qi237 : (0 < l0.length) = True := eq_true (by omega)
  (try rw [show ((0 : Int)).toNat = 0 from rfl] at hx237_0)
  (try rw [show 0 * 2 = 0 from rfl] at hx237_0)
  (try rw [Addr.add_zero'] at hx237_0)
  (try rw [show ((0 : Int)).toNat = 0 from rfl] at hx237_1)
  (try rw [show 0 * 2 = 0 from rfl] at hx237_1)
  (try rw [Addr.add_zero'] at hx237_1)
  have HR237_0 := Aside0.mk hi237_0
  have HC237_0 := Aside0.mk hl237_0
  clear hi237_0 hl237_0
  replace p237 := eq_true p237
  replace q237 := eq_true q237
  go_enter Try.func77, Try.ntmps77
  go_upto_if 25 with (first | ((with_reducible refine gate_dst (N := 5) rfl ?_); refine Xbox 5 #[.slice none 0 0, .int .i64 0] 78 ?_; intro gb238 hg w7 hbox hb; have BK238 := Aside0.mk (hbox); have GE238 := Xge hg Xi; replace HB := Aside0.mk (below_step Xi hb); clear hb hbox hg; obtain ⟨hcz8_0, hcz8_1⟩ := Xc2 BK238; obtain ⟨hfz8_0, hfz8_1⟩ := Xf2 BK238) | ((with_reducible refine gate_callee (f := 119) rfl ?_); refine Xgo 20 Try.func119 #[.int .i64 ((rd_T78 l0 0).f1)] ?_; (with_reducible refine (spec_l03Least.calls ((rd_T78 l0 0).f1) t239 _ A5.out).mono ?_); rintro e w' ⟨rfl, ⟨nd, rfl⟩⟩; refine ⟨_, rfl, ?_⟩))
  (try simp only [XW.q0, XW.q1, XW.q2])
  go_cut [7] (fun v7 wc => ∃ (kq : Nat) (x7_5 : Int), v7 = .int .i64 x7_5 ∧ Aside0 (spec_l03Match.j0 kq l0 l1 t239 x7_5 ((rd_T78 l0 0).f0) ((rd_T78 l0 0).f1) = some r) ∧ Aside0 (kq ≤ k) ∧ Aside0 (wc.heap[gb238]? = some (.cells #[(.slice A237_0 ((rd_T78 l0 0).f0).length c237_0), .int .i64 ((rd_T78 l0 0).f1)] 78 (0, 0))) ∧ Aside0 (Below w.heap.size w wc))
  case first =>
   have H := HC6.out
   clear HC6
   obtain ⟨c9b0, H⟩ | ⟨c9b0, H⟩ := Xit H
   ·(first | rw [c9b0] | (simp only [i64_w, i32_w]; rw [c9b0]) | skip)
    obtain ⟨ji10, hji10⟩ : ∃ j_ : Int, (mn (l1.length : Int) 1) = j_ := ⟨_, rfl⟩
    replace H : (spec_l03Match.j0 k l0 l1 t239 ji10 ((rd_T78 l0 0).f0) ((rd_T78 l0 0).f1)) = some r := by first | (rw [hji10] at H; exact H) | (simp only [hji10] at H ⊢; exact H)
    (try (have hji10h : ji10 ≤ 1 := by (rw [← hji10]; unfold mn; (repeat' split) <;> omega)))
    (try (have hji10g : ji10 ≤ 64 := by omega))
    (try (have hji10l : 0 ≤ ji10 := by (rw [← hji10]; unfold mn; (repeat' split) <;> omega)))
    (try (have hji10m : 0 ≤ ji10 := by omega))
    have hji10_ : (if 1 < (l1.length : Int) then 1 else (l1.length : Int)) = ji10 := hji10
    have H' := Aside0.mk H
    clear H
    go_wp2
    go_meet
    case rel => exact ⟨_, (ji10), (by first | rfl | (simp; done) | (simp only [← hji10] <;> (first | rfl | simp)) | (simp [*]; done)), H', Xko, ⟨by (with_reducible repeat (first | refine blk_drewN ?_ _ | refine blk_drew ?_ | refine blk_alloc ?_ _)); refine blk_put (cs := #[.slice A237_0 ((rd_T78 l0 0).f0).length c237_0, .int .i64 0]) ?_ 1 _ rfl; (with_reducible repeat (first | refine blk_drewN ?_ _ | refine blk_drew ?_ | refine blk_alloc ?_ _)); refine blk_put (cs := #[.slice none 0 0, .int .i64 0]) ?_ 0 _ rfl; (with_reducible repeat (first | refine blk_drewN ?_ _ | refine blk_drew ?_ | refine blk_alloc ?_ _)); exact BK238.out⟩, ⟨Xi⟩⟩
   (first | rw [c9b0] | (simp only [i64_w, i32_w]; rw [c9b0]) | skip)
   have H' := Aside0.mk H
   clear H
   go_wp2
   go_meet
   case rel => exact ⟨_, ((l1.length : Int)), Xr, H', Xko, ⟨by (with_reducible repeat (first | refine blk_drewN ?_ _ | refine blk_drew ?_ | refine blk_alloc ?_ _)); refine blk_put (cs := #[.slice A237_0 ((rd_T78 l0 0).f0).length c237_0, .int .i64 0]) ?_ 1 _ rfl; (with_reducible repeat (first | refine blk_drewN ?_ _ | refine blk_drew ?_ | refine blk_alloc ?_ _)); refine blk_put (cs := #[.slice none 0 0, .int .i64 0]) ?_ 0 _ rfl; (with_reducible repeat (first | refine blk_drewN ?_ _ | refine blk_drew ?_ | refine blk_alloc ?_ _)); exact BK238.out⟩, ⟨Xi⟩⟩
  clear HC6
  (try clear c1); (try clear c3); (try clear c3b0); (try clear c3b1); (try clear c3b2); (try clear c4); (try clear c4b0); (try clear c4b1); (try clear hcz8_0); (try clear hcz8_1); (try clear hfz8_0); (try clear hfz8_1); (try clear hx237_0); (try clear hx237_1); (try clear p237); (try clear q237)
  obtain ⟨kq, x7_5, rfl, HA, HJ5, BK238, HB⟩ := hcut
  cases kq with | zero => cases HA.out | succ kj5 => ?_
  have H := HA.out
  clear HA
  simp only [spec_l03Match.j0] at H
  have H' := Aside0.mk H
  clear H
  go_wp2
  go_loopg [8] kj5 (fun kq v8 w' => ∃ (x8_2 : Int), v8 = .int .i64 x8_2 ∧ Aside0 (spec_l03Match.l0 kq l0 l1 t239 x7_5 x8_2 ((rd_T78 l0 0).f0) ((rd_T78 l0 0).f1) = some r) ∧ Aside0 (kq ≤ kj5) ∧ Aside0 (w'.heap[gb238]? = some (.cells #[(.slice A237_0 ((rd_T78 l0 0).f0).length c237_0), .int .i64 ((rd_T78 l0 0).f1)] 78 (0, 0))) ∧ Aside0 (Below w.heap.size w w'))
  case atStart => exact ⟨(0), Xr, H', Xkr, BK238, ⟨Xi⟩⟩
  clear H'
  (try clear c1); (try clear c3); (try clear c3b0); (try clear c3b1); (try clear c3b2); (try clear c4); (try clear c4b0); (try clear c4b1); (try clear hcz8_0); (try clear hcz8_1); (try clear hfz8_0); (try clear hfz8_1); (try clear hx237_0); (try clear hx237_1); (try clear p237); (try clear q237)
  obtain ⟨x8_2, rfl, HA, HK2, BK238, HB⟩ := hrel
  cases gk with | zero => cases HA.out | succ k2 => ?_
  have H := HA.out
  clear HA
  simp only [spec_l03Match.l0] at H
  obtain ⟨c11b0, H⟩ | ⟨c11b0, H⟩ := Xit H
  ·have HC12 := Aside0.mk H
   clear H
   go_upto_region 11 with (fail)
   go_cut [43] (fun v43 wc => ∃ (kq : Nat) (x43_11 : Bool), v43 = .bool x43_11 ∧ Aside0 (spec_l03Match.j2 kq l0 l1 t239 x7_5 x8_2 x43_11 ((rd_T78 l0 0).f0) ((rd_T78 l0 0).f1) = some r) ∧ Aside0 (kq ≤ k2) ∧ Aside0 (wc.heap[gb238]? = some (.cells #[(.slice A237_0 ((rd_T78 l0 0).f0).length c237_0), .int .i64 ((rd_T78 l0 0).f1)] 78 (0, 0))) ∧ Aside0 (Below w.heap.size w wc))
   case first =>
    have H := HC12.out
    clear HC12
    obtain ⟨c13, H⟩ | ⟨c13, H⟩ := Xiu H
    ·have c13b0 : decide (t239 ≤ x8_2) = true := decide_eq_true c13
     clear c13
     (first | rw [c13b0] | (simp only [i64_w, i32_w]; rw [c13b0]) | skip)
     obtain ⟨c14, H⟩ := Xif H
     have c14b0 := eq_true c14
     have c14b1 : decide (1 ≤ (l0.length : Int)) = true := decide_eq_true c14
     clear c14
     obtain ⟨y240, hy240⟩ : ∃ y_ : List (S78), y_ = (l0.drop 1) := ⟨_, rfl⟩
     replace H : (if 0 ≤ x8_2 then (if x8_2 ≤ (l1.length : Int) then ((spec_l03Match.f k2 y240 (l1.drop (x8_2 : Int).toNat)).bind fun t245 => (spec_l03Match.j2 k2 l0 l1 t239 x7_5 x8_2 t245 ((rd_T78 l0 0).f0) ((rd_T78 l0 0).f1))) else (none)) else (none)) = some r := by first | (rw [hy240]; with_reducible exact H) | (have H2_ := (Option.bind_some _ _).symm.trans H; rw [hy240]; with_reducible exact H2_) | (have H2_ := (Option.bind_some _ _).symm.trans H; with_reducible exact H2_) | with_reducible exact H | (rw [hy240]; exact H) | exact H
     have Ny240 := Aside0.mk hy240
     clear hy240
     obtain ⟨c15, H⟩ := Xif H
     have c15b0 := eq_true c15
     have c15b1 : decide (0 ≤ x8_2) = true := decide_eq_true c15
     clear c15
     obtain ⟨c16, H⟩ := Xif H
     have c16b0 := eq_true c16
     have c16b1 : decide (x8_2 ≤ (l1.length : Int)) = true := decide_eq_true c16
     clear c16
     obtain ⟨t245, A17, H⟩ := Xbi H
     (try dsimp only at H)
     have H' := Aside0.mk H
     clear H
     try go_wp2_with (fail)
     replace BK238 := Aside0.mk (blk_drew BK238.out)
     replace HB := Aside0.mk (below_drew1 HB.out)
     have q19 : (1 : Int) ≤ ((l0.length : Int) : Int) := of_decide_eq_true Xa
     obtain ⟨i019, hi019, _, hsz19, _⟩ := info_parts info78
     have hroom19 : l0.length ≤ c0 := HC0.out
     have hC19 : Kd.C k78 _ (some ad237) l0.length l0 := HR0.out
     have hcut19 := cut_from (P := Try.prog) 30 78 .i64 Try.underlying30 hi019 2 hsz19 (some ad237) l0.length c0 1 (by omega) q19
     have hr19 := Kd.C_drop (m := (1 : Int).toNat) (c := c0) hC19 (by omega) hroom19
     obtain ⟨A19, hA19⟩ : ∃ A1, A1 = (if c0 = (1 : Int).toNat then (some ad237) else ((some ad237) : Option Addr).map (·.add ((1 : Int).toNat * 2))) := ⟨_, rfl⟩
     obtain ⟨c19, hc19⟩ : ∃ c1, c1 = c0 - (1 : Int).toNat := ⟨_, rfl⟩
     have hy19 : y240.length = l0.length - (1 : Int).toNat := (by rw [Ny240.out, List.length_drop] <;> omega)
     rw [show (l0).drop (1 : Int).toNat = y240 from Ny240.out.symm] at hr19
     replace hr19 : Kd.C k78 _ A19 y240.length y240 := (by rw [hA19]; exact hr19)
     rw [← hy19, ← hA19, ← hc19] at hcut19
     have HR243 := Aside0.mk hr19
     have HC243 := Aside0.mk (show y240.length ≤ c19 from by rw [hy19, hc19]; exact Nat.sub_le_sub_right hroom19 _)
     clear hr19 hC19 hroom19 hi019 hsz19 hc19
     have KY19 := Aside0.mk hy19
     have KA19 := Aside0.mk hA19
     clear hy19 hA19
     replace q19 := eq_true q19
     obtain ⟨i020, hi020, _, hsz20, _⟩ := info_parts info3
     obtain ⟨A20, hcut20, hA20, hC20⟩ := print_drop_of (P := Try.prog) (Value.int .i64) 0 39 3 .i64 Try.underlying39 hi020 hsz20 A1 c1 l1 x8_2 (of_decide_eq_true Xa) (of_decide_eq_true Xa) HC1.out
     have HR244 := Aside0.mk (Kd.C_of_reads (h1 := fun _ => rfl) (hA20 _ (Kd.reads_of_C HR1.out)))
     have HC244 := Aside0.mk hC20
     clear hA20 hC20 hi020 hsz20
     refine start_ (n := 11) (S := fun w' => True) (ds := []) #[false, false, false, false, false, false, false, false, false, false, false] (by kernel_rfl) rfl rfl trivial (fun hHeld => ?_); refine with_tabW spec_l03Match.tab11 spec_l03Match.bits11 (fun HT_ HW_ => ?_)
     generalize wr.drew = w18 at BK238 HB HR243 HR244 hHeld ⊢
     refine Xpu 0 33 (XW.bs 11 1) HT_.out ?_
     refine Xpu 1 34 (XW.bs 11 3) HT_.out ?_
     refine Xpu 2 35 (XW.bs 11 7) HT_.out ?_
     refine Xpu 3 36 (XW.bs 11 15) HT_.out ?_
     refine Xpu 4 37 (XW.bs 11 31) HT_.out ?_
     refine Xpu 5 38 (XW.bs 11 63) HT_.out ?_
     refine Xpu 6 39 (XW.bs 11 127) HT_.out ?_
     refine Xpu 7 40 (XW.bs 11 255) HT_.out ?_
     refine Xpu 8 41 (XW.bs 11 511) HT_.out ?_
     refine one_ (i := 9) (N := some 42) (XW.bs 11 1023) rfl rfl (one_of HT_.out (by kernel_rfl)) (by decide) (fun K hK => ?_)
     refine goes_ Try.func77 (by kernel_rfl) rfl #[.slice A19 y240.length c19, .slice A20 (l1.drop (x8_2 : Int).toNat).length (c1 - x8_2.toNat)] (by rfl) rfl rfl (by (try simp only [List.map_toArray, List.map_cons, List.map_nil]); first | done | (rw [show (l1.drop (x8_2 : Int).toNat).length = (l1.length - x8_2.toNat) from List.length_drop] <;> rfl) | rfl | (simp only [List.length_drop, List.length_take]; rfl)) ?_
     with_reducible refine (ih k2 (by have := HJ5.out; have := HK2.out; omega) _ _ y240 _ _ (l1.drop (x8_2 : Int).toNat) t245 _ ?side1 ?side2 ?side3 ?side4 A17.out).mono ?_
     (case side1 => exact Xc HR243)
     (case side2 => exact HC243.out)
     (case side3 => exact Xc HR244)
     (case side4 => exact HC244.out)
     rintro e w21 ⟨rfl, hb⟩
     refine ⟨_, rfl, ?_⟩
     replace BK238 := Xbb BK238 hb
     replace HB := Aside0.mk (below_step Xi hb)
     (try clear hb)
     (try clear hb2)
     (try clear hk)
     (try clear hi)
     refine hK.out _ _ trivial (fun hHeld => ?_)
     clear hK K
     refine Xno ?_
     refine Xpu 10 43 (XW.bs 11 2047) HT_.out ?_
     refine done_ (done_of HT_.out (by kernel_rfl)) ?_
     try go_wp2_with (fail)
     go_meet
     case rel => exact ⟨_, (t245), Xr, H', ⟨by have := HJ5.out; have := HK2.out; first | omega | exact Nat.le_refl _⟩, BK238, ⟨Xi⟩⟩
    have c13b0 : decide (t239 ≤ x8_2) = false := decide_eq_false c13
    clear c13
    (first | rw [c13b0] | (simp only [i64_w, i32_w]; rw [c13b0]) | skip)
    have H' := Aside0.mk H
    clear H
    try go_wp2_with (fail)
    replace BK238 := Aside0.mk (blk_drew BK238.out)
    replace HB := Aside0.mk (below_drew1 HB.out)
    refine start_ (n := 11) (S := fun w' => True) (ds := []) #[false, false, false, false, false, false, false, false, false, false, false] (by kernel_rfl) rfl rfl trivial (fun hHeld => ?_); refine with_tabW spec_l03Match.tab11 spec_l03Match.bits11 (fun HT_ HW_ => ?_)
    generalize wr.drew = w22 at BK238 HB hHeld ⊢
    refine Xpu 0 33 (XW.bs 11 1) HT_.out ?_
    refine Xpu 1 34 (XW.bs 11 3) HT_.out ?_
    refine Xpu 2 35 (XW.bs 11 7) HT_.out ?_
    refine Xpu 3 36 (XW.bs 11 15) HT_.out ?_
    refine Xpn 4 37 (XW.bs 11 31) HT_.out ?_
    refine Xpn 5 38 (XW.bs 11 63) HT_.out ?_
    refine Xpn 6 39 (XW.bs 11 127) HT_.out ?_
    refine Xpn 7 40 (XW.bs 11 255) HT_.out ?_
    refine Xpn 8 41 (XW.bs 11 511) HT_.out ?_
    refine Xpn 9 42 (XW.bs 11 1023) HT_.out ?_
    refine Xpu 10 43 (XW.bs 11 2047) HT_.out ?_
    refine done_ (done_of HT_.out (by kernel_rfl)) ?_
    try go_wp2_with (fail)
    go_meet
    case rel => exact ⟨_, (false), Xr, H', ⟨by have := HJ5.out; have := HK2.out; first | omega | exact Nat.le_refl _⟩, BK238, ⟨Xi⟩⟩
   clear HC12
   (try clear c1); (try clear c3); (try clear c3b0); (try clear c3b1); (try clear c3b2); (try clear c4); (try clear c4b0); (try clear c4b1); (try clear c11); (try clear c11b0); (try clear hcz8_0); (try clear hcz8_1); (try clear hfz8_0); (try clear hfz8_1); (try clear hx237_0); (try clear hx237_1); (try clear p237); (try clear q237)
   obtain ⟨kq, x43_11, rfl, HA, HJ11, BK238, HB⟩ := hcut
   cases kq with | zero => cases HA.out | succ kj11 => ?_
   have H := HA.out
   clear HA
   simp only [spec_l03Match.j2] at H
   by_cases c23 : x43_11 = true
   ·subst c23
    (first | rw [if_pos rfl] at H | skip)
    obtain rfl := Option.some.inj H
    go_wp2
    go_ret
    exact ⟨Xe, Xi⟩
   replace c23 := Bool.eq_false_iff.mpr c23
   subst c23
   (first | rw [if_neg (show ¬ (false = true) by decide)] at H | skip)
   obtain ⟨c24b0, H⟩ | ⟨c24b0, H⟩ := Xit H
   ·obtain ⟨c25b0, H⟩ := Xid H
    obtain ⟨c26b0, H⟩ := Xid H
    obtain ⟨t247, A27, H⟩ := Xbi H
    (try dsimp only at H)
    have HC28 := Aside0.mk H
    clear H
    try go_wp2_with (fail)
    replace BK238 := Aside0.mk (blk_drew BK238.out)
    replace HB := Aside0.mk (below_drew1 HB.out)
    have p246 : 0 ≤ (x8_2 : Int) := of_decide_eq_true Xa
    have q246 : x8_2 < (l1.length : Int) := of_decide_eq_true Xa
    obtain ⟨ad246, e246, hx246_0⟩ := Kd.at_int HR1.out x8_2 p246 q246
    have hw246_0 := hx246_0
    cases e246
    replace hx246_0 := Xm HB hx246_0
    replace p246 := eq_true p246
    replace q246 := eq_true q246
    refine start_ (n := 13) (S := fun w' => w'.cell? ⟨gb238, 0, none⟩ = some (.slice A237_0 ((rd_T78 l0 0).f0).length c237_0) ∧ w'.cell? ⟨gb238, 1, none⟩ = some (.int .i64 ((rd_T78 l0 0).f1)) ∧ w'.cell? (ad246.add (x8_2).toNat) = some (.int .i64 (rd l1 x8_2))) (ds := []) #[false, false, false, false, false, false, false, false, false, false, false, false, false] (by kernel_rfl) rfl rfl ⟨(blk_cell BK238.out 0).trans rfl, (blk_cell BK238.out 1).trans rfl, Xn hw246_0⟩ (fun hHeld => ?_); refine with_tabW spec_l03Match.tab13 spec_l03Match.bits13 (fun HT_ HW_ => ?_)
    generalize wc.drew = w29 at BK238 HB hx246_0 hHeld ⊢
    refine Xpu 0 44 (XW.bs 13 1) HT_.out ?_
    refine Xpu 1 45 (XW.bs 13 3) HT_.out ?_
    refine Xpu 2 46 (XW.bs 13 7) HT_.out ?_
    refine Xpu 3 47 (XW.bs 13 15) HT_.out ?_
    refine Xpu 4 48 (XW.bs 13 31) HT_.out ?_
    refine Xpu 6 50 (XW.bs 13 95) HT_.out ?_
    refine Xpu 7 51 (XW.bs 13 223) HT_.out ?_
    refine Xpu 8 52 (XW.bs 13 479) HT_.out ?_
    refine Xta 5 49 (XW.bs 13 511) HT_.out HW_.out hHeld ?_
    refine Xta 9 53 (XW.bs 13 1023) HT_.out HW_.out hHeld ?_
    refine one_ (i := 10) (N := some 54) (XW.bs 13 2047) rfl rfl (one_of HT_.out (by kernel_rfl)) (by decide) (fun K hK => ?_)
    refine goes_ Try.func106 (by kernel_rfl) rfl #[.slice A237_0 ((rd_T78 l0 0).f0).length c237_0, .int .i64 (rd l1 x8_2)] (by rfl) rfl rfl (by (try simp only [List.map_toArray, List.map_cons, List.map_nil]); first | done | rfl | (simp only [List.length_drop, List.length_take]; rfl)) ?_
    with_reducible refine (spec_l02Has.calls kj11 _ _ ((rd_T78 l0 0).f0) (rd l1 x8_2) t247 _ ?side1 ?side2 A27.out).mono ?_
    (case side1 => exact Xc HR237_0)
    (case side2 => exact HC237_0.out)
    rintro e w' ⟨rfl, ⟨nd, rfl⟩⟩
    refine ⟨_, rfl, ?_⟩
    refine hK.out _ _ ⟨(blk_cell BK238.out 0).trans rfl, (blk_cell BK238.out 1).trans rfl, Xn hw246_0⟩ (fun hHeld => ?_)
    clear hK K
    refine Xno ?_
    refine Xpu 11 55 (XW.bs 13 4095) HT_.out ?_
    refine Xpu 12 56 (XW.bs 13 8191) HT_.out ?_
    refine done_ (done_of HT_.out (by kernel_rfl)) ?_
    go_upto_if 56 with (fail)
    (try (rw [drewN_self w29]; generalize hq_ : World.drewN w29 _ = w29; have n0_ : Aside0 (w29.heap[gb238]? = some (.cells #[.slice A237_0 ((rd_T78 l0 0).f0).length c237_0, .int .i64 ((rd_T78 l0 0).f1)] 78 (0, 0))) := ⟨by rw [← hq_]; exact BK238.out⟩; have n1_ : Aside0 (Below w.heap.size w w29) := ⟨by rw [← hq_]; exact Xi⟩; clear BK238 HB hq_; have BK238 := n0_; have HB := n1_; clear n0_ n1_))
    have H := HC28.out
    clear HC28
    by_cases c30 : t247 = true
    ·subst c30
     (first | rw [if_pos rfl] at H | skip)
     have H' := Aside0.mk H
     clear H
     go_wp2
     go_roundg kj11
     case measure => have := HJ5.out; have := HK2.out; have := HJ11.out; omega
     case rel => exact ⟨(wrap64 (x8_2 + 1)), Xr, H', ⟨by have := HJ5.out; have := HK2.out; have := HJ11.out; omega⟩, BK238, ⟨Xi⟩⟩
    replace c30 := Bool.eq_false_iff.mpr c30
    subst c30
    (first | rw [if_neg (show ¬ (false = true) by decide)] at H | skip)
    obtain rfl := Option.some.inj H
    go_wp2
    go_ret
    exact ⟨Xe, Xi⟩
   have H' := Aside0.mk H
   clear H
   try go_wp2_with (fail)
   replace BK238 := Aside0.mk (blk_drew BK238.out)
   replace HB := Aside0.mk (below_drew1 HB.out)
   refine start_ (n := 13) (S := fun w' => True) (ds := []) #[false, false, false, false, false, false, false, false, false, false, false, false, false] (by kernel_rfl) rfl rfl trivial (fun hHeld => ?_); refine with_tabW spec_l03Match.tab13 spec_l03Match.bits13 (fun HT_ HW_ => ?_)
   generalize wc.drew = w31 at BK238 HB hHeld ⊢
   refine Xpu 0 44 (XW.bs 13 1) HT_.out ?_
   refine Xpu 1 45 (XW.bs 13 3) HT_.out ?_
   refine Xpu 2 46 (XW.bs 13 7) HT_.out ?_
   refine Xpu 3 47 (XW.bs 13 15) HT_.out ?_
   refine Xpn 4 48 (XW.bs 13 31) HT_.out ?_
   refine Xpn 5 49 (XW.bs 13 63) HT_.out ?_
   refine Xpn 6 50 (XW.bs 13 127) HT_.out ?_
   refine Xpn 7 51 (XW.bs 13 255) HT_.out ?_
   refine Xpn 8 52 (XW.bs 13 511) HT_.out ?_
   refine Xpn 9 53 (XW.bs 13 1023) HT_.out ?_
   refine Xpn 10 54 (XW.bs 13 2047) HT_.out ?_
   refine Xpn 11 55 (XW.bs 13 4095) HT_.out ?_
   refine Xpu 12 56 (XW.bs 13 8191) HT_.out ?_
   refine done_ (done_of HT_.out (by kernel_rfl)) ?_
   try go_wp2_with (fail)
   go_roundg kj11
   case measure => have := HJ5.out; have := HK2.out; have := HJ11.out; omega
   case rel => exact ⟨(wrap64 (x8_2 + 1)), Xr, H', ⟨by have := HJ5.out; have := HK2.out; have := HJ11.out; omega⟩, BK238, ⟨Xi⟩⟩
  obtain rfl := Option.some.inj H
  go_wp2
  go_ret
  exact ⟨Xe, Xi⟩
 exact absurd H (by simp)
end Go.Proofs.Ythkbgbkglgmpoaa.XA
