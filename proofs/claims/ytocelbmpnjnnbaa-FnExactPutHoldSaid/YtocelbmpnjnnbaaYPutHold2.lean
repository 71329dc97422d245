/- Contracts of the program's functions: each Go function that is named below comes to what its Lean function says. Written by xprint.py (a program of this session's, over the kit's print). Conditions: each contract's own premises. -/
import Derived.Test.YtocelbmpnjnnbaaYPutHold0
import Derived.Test.YtocelbmpnjnnbaaYPutHold1
namespace Go.Proofs.Ytocelbmpnjnnbaa.XA
open Go.RowKit Go.Proofs.YtocelbmpnjnnbaaW.PrintWords Go.Proofs.YtocelbmpnjnnbaaW.PrintLast Go.Proofs.YtocelbmpnjnnbaaW.PrintMore XW
attribute [local go_sem] max2_int min2_int max_two min_two max_three min_three max_four min_four   -- for this text's walks alone
set_option linter.unusedVariables false
set_option linter.unusedSimpArgs false

/-! ### spec_l02Nodes: function 192 -/
mutual
def spec_l02Nodes.l0 : Nat → List Int → Int → Int → Int → List (S64) → Option (Bool)
 | 0, _, _, _, _, _ => none
 | k + 1, x3, x4, x116000, x116001, x116002 => if x4 < (x116002.length : Int) then (if 0 ≤ x4 then ((spec_l02Node.f ((rd_T64 x116002 x4).f0) ((rd_T64 x116002 x4).f1) ((rd_T64 x116002 x4).f2) ((rd_T64 x116002 x4).f3) ((rd_T64 x116002 x4).f4) x116001).bind fun t122 => (if t122 = true then (if x4 > 0 then (if 0 ≤ (wrap64 (x4 - 1)) then (if (wrap64 (x4 - 1)) < (x116002.length : Int) then (spec_l02Nodes.j1 k x3 x4 (decide (((rd_T64 x116002 x4).f0) ≤ ((rd_T64 x116002 (wrap64 (x4 - 1))).f0))) x116000 x116001 x116002 ((rd_T64 x116002 x4).f0) ((rd_T64 x116002 x4).f1) ((rd_T64 x116002 x4).f2) ((rd_T64 x116002 x4).f3) ((rd_T64 x116002 x4).f4)) else (none)) else (none)) else (spec_l02Nodes.j1 k x3 x4 false x116000 x116001 x116002 ((rd_T64 x116002 x4).f0) ((rd_T64 x116002 x4).f1) ((rd_T64 x116002 x4).f2) ((rd_T64 x116002 x4).f3) ((rd_T64 x116002 x4).f4))) else (spec_l02Nodes.j1 k x3 x4 true x116000 x116001 x116002 ((rd_T64 x116002 x4).f0) ((rd_T64 x116002 x4).f1) ((rd_T64 x116002 x4).f2) ((rd_T64 x116002 x4).f3) ((rd_T64 x116002 x4).f4)))) else (none)) else (if (x3.length : Int) = (wrap64 ((x116002.length : Int) - 1)) then ((spec_l02At.f k x116000 x116001 x116002 x116000).bind fun t119 => (some (decide (t119 ≥ 0)))) else (some false))
def spec_l02Nodes.j1 : Nat → List Int → Int → Bool → Int → Int → List (S64) → Int → Int → Int → ByteArray → List Int → Option (Bool)
 | 0, _, _, _, _, _, _, _, _, _, _, _ => none
 | k + 1, x3, x4, x40, x116000, x116001, x116002, x122000, x122001, x122002, x122003, x122004 => if x40 = true then (some false) else (spec_l02Nodes.l1 k x3 x4 0 x116000 x116001 x116002 x122000 x122001 x122002 x122003 x122004)
def spec_l02Nodes.l1 : Nat → List Int → Int → Int → Int → Int → List (S64) → Int → Int → Int → ByteArray → List Int → Option (Bool)
 | 0, _, _, _, _, _, _, _, _, _, _, _ => none
 | k + 1, x3, x4, x6, x116000, x116001, x116002, x122000, x122001, x122002, x122003, x122004 => if x6 < (x122004.length : Int) then (if 0 ≤ x6 then (if (rd x122004 x6) = x116000 then (some false) else ((spec_l02Has.f k x3 (rd x122004 x6)).bind fun t126 => (if t126 = true then (some false) else ((spec_l02At.f k x116000 x116001 x116002 (rd x122004 x6)).bind fun t128 => (if t128 < 0 then (some false) else (if x3.length < 17592186044416 then (spec_l02Nodes.l1 k (x3 ++ [rd x122004 x6]) x4 (wrap64 (x6 + 1)) x116000 x116001 x116002 x122000 x122001 x122002 x122003 x122004) else (none))))))) else (none)) else (spec_l02Nodes.l0 k x3 (wrap64 (x4 + 1)) x116000 x116001 x116002)
end
def spec_l02Nodes.f (k : Nat) (a0_0 : Int) (a0_1 : Int) (l0_2 : List (S64)) : Option (Bool) := spec_l02Nodes.l0 k (([] : List Int)) 0 a0_0 a0_1 l0_2
def spec_l02Nodes.T6 : Bool × List (List Nat × List Nat) := (true, [([], []), ([], []), ([1], [1]), ([0, 2], [0, 2]), ([3], [3]), ([4, 3], [4]), ([5], [5]), ([6, 5], [5, 6]), ([7, 5, 5], [5, 7]), ([8], [8]), ([9, 8], [8, 9]), ([8], [8]), ([11, 8], [8, 11]), ([8], [8]), ([13, 8], [8, 13]), ([12, 14, 8], [8, 12, 14]), ([15, 8], [8, 15]), ([16, 8], [8, 16]), ([10, 17, 8], [8, 10, 17]), ([8, 18, 5], [5, 8, 18]), ([5, 19], [5, 19])])
def spec_l02Nodes.B6 : List Nat := [0, 0, 2, 7, 15, 31, 63, 127, 255, 511, 1023, 511, 2559, 511, 8703, 31231, 63999, 129535, 262143, 524287, 1048575]
theorem spec_l02Nodes.tab6 : rtab .any (opsOf Try.f192 6) = spec_l02Nodes.T6 := by kernel_rfl
theorem spec_l02Nodes.bits6 : waitsOk spec_l02Nodes.T6.2 spec_l02Nodes.B6 = true := by kernel_rfl
def spec_l02Nodes.T11 : Bool × List (List Nat × List Nat) := (true, [([], []), ([0], [0]), ([], []), ([1, 2], [1, 2]), ([3], [3]), ([], []), ([5], [5]), ([4, 6], [4, 6]), ([7], [7]), ([8], [8]), ([8], [8]), ([10, 8], [8, 10]), ([8], [8]), ([11, 12, 8], [8, 11, 12]), ([13, 8], [8, 13]), ([9, 14, 8, 8], [8, 9, 14]), ([8, 15], [8, 15]), ([16, 15], [16]), ([17], [17]), ([17], [17]), ([19, 17], [17, 19]), ([17], [17]), ([20, 21, 17], [17, 20, 21]), ([22, 17], [17, 22]), ([18, 23, 17, 17], [17, 18, 23]), ([24, 17], [17, 24]), ([17, 25], [17, 25])])
def spec_l02Nodes.B11 : List Nat := [0, 1, 0, 7, 15, 0, 32, 127, 255, 511, 511, 1535, 511, 7679, 15871, 32767, 65535, 131071, 262143, 262143, 786431, 262143, 3932159, 8126463, 16777215, 33554431, 67108863]
theorem spec_l02Nodes.tab11 : rtab .any (opsOf Try.f192 11) = spec_l02Nodes.T11 := by kernel_rfl
theorem spec_l02Nodes.bits11 : waitsOk spec_l02Nodes.T11.2 spec_l02Nodes.B11 = true := by kernel_rfl
set_option maxHeartbeats 8000000 in
set_option maxRecDepth 100000 in
theorem spec_l02Nodes.calls (k : Nat) (a0_0 : Int) (a0_1 : Int) (A0_2 : Option Addr) (c0_2 : Nat) (l0_2 : List (S64)) (r : Bool) (w : World) (hr0_2 : Kd.C k64 w A0_2 l0_2.length l0_2) (hc0_2 : l0_2.length ≤ c0_2) (h : spec_l02Nodes.f k a0_0 a0_1 l0_2 = some r) :
  Calls Try.prog 192 #[.agg #[.int .i64 a0_0, .int .i64 a0_1, .slice A0_2 l0_2.length c0_2]] w fun e w' => e = .returned (.bool r) ∧ Below w.heap.size w w' := by
 have hu35 := Try.underlying35
 have hu64 := Try.underlying64
 have HR0_2 := Aside0.mk hr0_2
 have HC0_2 := Aside0.mk hc0_2
 clear hr0_2 hc0_2
 have HB := Aside0.mk (Below.refl w.heap.size w)
 have H : (spec_l02Nodes.l0 k (([] : List Int)) 0 a0_0 a0_1 l0_2) = some r := h
 clear h
 obtain ⟨y116, hy116⟩ : ∃ y_ : List Int, y_ = (([] : List Int)) := ⟨_, rfl⟩
 replace H : (spec_l02Nodes.l0 k y116 0 a0_0 a0_1 l0_2) = some r := by first | (rw [hy116]; with_reducible exact H) | (have H2_ := (Option.bind_some _ _).symm.trans H; rw [hy116]; with_reducible exact H2_) | (have H2_ := (Option.bind_some _ _).symm.trans H; with_reducible exact H2_) | with_reducible exact H | (rw [hy116]; exact H) | exact H
 have Ny116 := Aside0.mk hy116
 clear hy116
 have H' := Aside0.mk H
 clear H
 go_enter Try.func192, Try.ntmps192
 go_wp2_with (first | ((with_reducible refine gate_dst (N := 1) rfl ?_); refine Xbox 1 #[.int .i64 a0_0, .int .i64 a0_1, .slice A0_2 l0_2.length c0_2] 35 ?_; intro gb115 hg w2 hbox hb; have BK115 := Aside0.mk (hbox); have GE115 := Xge hg Xi; replace HB := Aside0.mk (below_step Xi hb); clear hb hbox hg) | ((with_reducible refine gate_dst (N := 7) rfl ?_); refine Kd.R_lit (Kd.int .i64) _ 3 ?hg (N := 7) ?hd (xs := ([] : List Int)) (inner := []) (ok := fun _ => True) (okp := fun _ => True) ?hr ?hp (fun _ hk => hk) trivial (Below.refl _ _) (Nat.le_refl _) (by simp) ?_; (case hd => rfl); (case hg => rfl); (case hr => first | (go_simp; done) | (go_simp; rfl)); (case hp => exact (Reps.none _ _)); intro v117 w3 ho4 hb hg_ hnew_; clear hg_ hnew_; (first | rw [← Ny116.out] at ho4 | (simp only [Int.reduceToNat] at ho4; rw [← Ny116.out] at ho4)); have HO118 := Aside0.mk (Kd.R_lower ho4 (below_size Xi)); replace BK115 := Xbb BK115 hb; replace HB := Aside0.mk (below_step Xi hb); clear hb ho4))
 go_loopg [3, 4] k (fun kq v3 v4 w' => ∃ (x3_1 : List Int) (x4_1 : Int), v4 = .int .i64 x4_1 ∧ Aside0 (spec_l02Nodes.l0 kq x3_1 x4_1 a0_0 a0_1 l0_2 = some r) ∧ Aside0 (kq ≤ k) ∧ Aside0 (Kd.R (Kd.int .i64) 3 w' w.heap.size (fun _ => True) v3 x3_1) ∧ Aside0 (w'.heap[gb115]? = some (.cells #[.int .i64 a0_0, .int .i64 a0_1, (.slice A0_2 l0_2.length c0_2)] 35 (0, 0))) ∧ Aside0 (Below w.heap.size w w'))
 case atStart => exact ⟨(y116), (0), Xr, H', Xkr, (Xp' HO118), (Xp BK115), ⟨Xi⟩⟩
 case round =>
  clear H'
  obtain ⟨x3_1, x4_1, rfl, HA, HK1, HO_3, BK115, HB⟩ := hrel
  cases gk with
  | zero => cases HA.out
  | succ k1 =>
   have H := HA.out
   clear HA
   simp only [spec_l02Nodes.l0] at H
   obtain ⟨c5b0, H⟩ | ⟨c5b0, H⟩ := Xit H
   ·obtain ⟨c6b0, H⟩ := Xid H
    have HC7 := Aside0.mk H
    clear H
    obtain ⟨hcz8_0, hcz8_1, hcz8_2⟩ := Xc3 BK115
    obtain ⟨hfz8_0, hfz8_1, hfz8_2⟩ := Xf3 BK115
    obtain ⟨ad120, A120_4, c120_4, e120, p120, q120, hx120_0, hx120_1, hx120_2, hx120_3, hx120_4, HC120_4, HR120_4⟩ := at_B64 HR0_2 x4_1 Xa Xa HB
    cases e120
    go_upto_region 6 with (first | ((with_reducible refine gate_dst (N := 5) rfl ?_); refine Xbox 5 #[.int .i64 0, .int .i64 0, .int .i64 0, .string (⟨#[]⟩ : ByteArray), .slice none 0 0] 64 ?_; intro gb121 hg w9 hbox hb; replace HO_3 := Aside0.mk (Kd.R_below (Xq HO_3) hb); have BK121 := Aside0.mk (hbox); have GE121 := Xge hg Xi; replace HB := Aside0.mk (below_step Xi hb); have NB115_121 := Xnb hg BK115; have NB121_115 := Xns NB115_121; replace BK115 := Xbb BK115 hb; clear hb hbox hg; have hnb10 := NB121_115.out; have hnc10 := NB115_121.out; obtain ⟨hcz11_0, hcz11_1, hcz11_2, hcz11_3, hcz11_4⟩ := Xc5 BK121; obtain ⟨hfz11_0, hfz11_1, hfz11_2, hfz11_3, hfz11_4⟩ := Xf5 BK121) | ((with_reducible refine gate_store (t := 64) (p := 5) rfl ?_); refine store_event (t := 64) (p := 5) (v := ?vo_w12) (w1 := (((((w9.setCell ⟨gb121, 0, none⟩ (.int .i64 ((rd_T64 l0_2 x4_1).f0))).setCell ⟨gb121, 1, none⟩ (.int .i64 ((rd_T64 l0_2 x4_1).f1))).setCell ⟨gb121, 2, none⟩ (.int .i64 ((rd_T64 l0_2 x4_1).f2))).setCell ⟨gb121, 3, none⟩ (.string ((rd_T64 l0_2 x4_1).f3))).setCell ⟨gb121, 4, none⟩ (.slice A120_4 ((rd_T64 l0_2 x4_1).f4).length c120_4))) ?hg ?ho ?hn ?hr ?_; (case ho => rfl); (case hg => rfl); (case hn => rfl); (case hr => first | (go_simp; done) | (go_simp; rfl)); intro w12 hw; have n0_ : Aside0 (Kd.R (Kd.int .i64) 3 w12 w.heap.size (fun _ => True) u3 x3_1) := ⟨(by rw [hw]; exact (by (with_reducible repeat (first | apply Kd.R_alloc | apply Kd.R_drewN | apply Kd.R_drew)); exact Kd.R_mono (Kd.R_far (p := ⟨gb121, 4, none⟩) (Kd.R_far (p := ⟨gb121, 3, none⟩) (Kd.R_far (p := ⟨gb121, 2, none⟩) (Kd.R_far (p := ⟨gb121, 1, none⟩) (Kd.R_far (p := ⟨gb121, 0, none⟩) (Kd.R_types HO_3.out BK121.out (by decide)) (fun _ hk => hk.2) (.int .i64 ((rd_T64 l0_2 x4_1).f0))) (fun _ hk => hk.2) (.int .i64 ((rd_T64 l0_2 x4_1).f1))) (fun _ hk => hk.2) (.int .i64 ((rd_T64 l0_2 x4_1).f2))) (fun _ hk => hk.2) (.string ((rd_T64 l0_2 x4_1).f3))) (fun _ hk => hk.2) (.slice A120_4 ((rd_T64 l0_2 x4_1).f4).length c120_4)) (fun _ hk => trivial)))⟩; have n1_ : Aside0 (w12.heap[gb115]? = some (.cells #[.int .i64 a0_0, .int .i64 a0_1, .slice (some ad120) l0_2.length c0_2] 35 (0, 0))) := ⟨(by rw [hw]; exact (by (with_reducible repeat (first | refine blk_drewN ?_ _ | refine blk_drew ?_ | refine blk_alloc ?_ _)); refine blk_far ?_ NB115_121.out _; (with_reducible repeat (first | refine blk_drewN ?_ _ | refine blk_drew ?_ | refine blk_alloc ?_ _)); refine blk_far ?_ NB115_121.out _; (with_reducible repeat (first | refine blk_drewN ?_ _ | refine blk_drew ?_ | refine blk_alloc ?_ _)); refine blk_far ?_ NB115_121.out _; (with_reducible repeat (first | refine blk_drewN ?_ _ | refine blk_drew ?_ | refine blk_alloc ?_ _)); refine blk_far ?_ NB115_121.out _; (with_reducible repeat (first | refine blk_drewN ?_ _ | refine blk_drew ?_ | refine blk_alloc ?_ _)); refine blk_far ?_ NB115_121.out _; (with_reducible repeat (first | refine blk_drewN ?_ _ | refine blk_drew ?_ | refine blk_alloc ?_ _)); exact BK115.out))⟩; have n2_ : Aside0 (w12.heap[gb121]? = some (.cells #[.int .i64 ((rd_T64 l0_2 x4_1).f0), .int .i64 ((rd_T64 l0_2 x4_1).f1), .int .i64 ((rd_T64 l0_2 x4_1).f2), .string ((rd_T64 l0_2 x4_1).f3), .slice A120_4 ((rd_T64 l0_2 x4_1).f4).length c120_4] 64 (0, 0))) := ⟨(by rw [hw]; exact (by (with_reducible repeat (first | refine blk_drewN ?_ _ | refine blk_drew ?_ | refine blk_alloc ?_ _)); refine blk_put (cs := #[.int .i64 ((rd_T64 l0_2 x4_1).f0), .int .i64 ((rd_T64 l0_2 x4_1).f1), .int .i64 ((rd_T64 l0_2 x4_1).f2), .string ((rd_T64 l0_2 x4_1).f3), .slice none 0 0]) ?_ 4 _ rfl; (with_reducible repeat (first | refine blk_drewN ?_ _ | refine blk_drew ?_ | refine blk_alloc ?_ _)); refine blk_put (cs := #[.int .i64 ((rd_T64 l0_2 x4_1).f0), .int .i64 ((rd_T64 l0_2 x4_1).f1), .int .i64 ((rd_T64 l0_2 x4_1).f2), .string (⟨#[]⟩ : ByteArray), .slice none 0 0]) ?_ 3 _ rfl; (with_reducible repeat (first | refine blk_drewN ?_ _ | refine blk_drew ?_ | refine blk_alloc ?_ _)); refine blk_put (cs := #[.int .i64 ((rd_T64 l0_2 x4_1).f0), .int .i64 ((rd_T64 l0_2 x4_1).f1), .int .i64 0, .string (⟨#[]⟩ : ByteArray), .slice none 0 0]) ?_ 2 _ rfl; (with_reducible repeat (first | refine blk_drewN ?_ _ | refine blk_drew ?_ | refine blk_alloc ?_ _)); refine blk_put (cs := #[.int .i64 ((rd_T64 l0_2 x4_1).f0), .int .i64 0, .int .i64 0, .string (⟨#[]⟩ : ByteArray), .slice none 0 0]) ?_ 1 _ rfl; (with_reducible repeat (first | refine blk_drewN ?_ _ | refine blk_drew ?_ | refine blk_alloc ?_ _)); refine blk_put (cs := #[.int .i64 0, .int .i64 0, .int .i64 0, .string (⟨#[]⟩ : ByteArray), .slice none 0 0]) ?_ 0 _ rfl; (with_reducible repeat (first | refine blk_drewN ?_ _ | refine blk_drew ?_ | refine blk_alloc ?_ _)); exact BK121.out))⟩; have n3_ : Aside0 (Below w.heap.size w w12) := ⟨(by rw [hw]; exact Xi)⟩; clear hw; clear HO_3; clear BK115; clear BK121; clear HB; have HO_3 := n0_; have BK115 := n1_; have BK121 := n2_; have HB := n3_; clear n0_ n1_ n2_ n3_))
    (try simp only [XW.q0, XW.q1, XW.q2])
    go_cut [40] (fun v40 wc => ∃ (kq : Nat) (x40_6 : Bool), v40 = .bool x40_6 ∧ Aside0 (spec_l02Nodes.j1 kq x3_1 x4_1 x40_6 a0_0 a0_1 l0_2 ((rd_T64 l0_2 x4_1).f0) ((rd_T64 l0_2 x4_1).f1) ((rd_T64 l0_2 x4_1).f2) ((rd_T64 l0_2 x4_1).f3) ((rd_T64 l0_2 x4_1).f4) = some r) ∧ Aside0 (kq ≤ k1) ∧ Aside0 (Kd.R (Kd.int .i64) 3 wc w.heap.size (fun _ => True) u3 x3_1) ∧ Aside0 (wc.heap[gb115]? = some (.cells #[.int .i64 a0_0, .int .i64 a0_1, (.slice (some ad120) l0_2.length c0_2)] 35 (0, 0))) ∧ Aside0 (wc.heap[gb121]? = some (.cells #[.int .i64 ((rd_T64 l0_2 x4_1).f0), .int .i64 ((rd_T64 l0_2 x4_1).f1), .int .i64 ((rd_T64 l0_2 x4_1).f2), .string ((rd_T64 l0_2 x4_1).f3), (.slice A120_4 ((rd_T64 l0_2 x4_1).f4).length c120_4)] 64 (0, 0))) ∧ Aside0 (Below w.heap.size w wc))
    case first =>
     have H := HC7.out
     clear HC7
     obtain ⟨t122, A13, H⟩ := Xbi H
     (try dsimp only at H)
     by_cases c14 : t122 = true
     ·subst c14
      (first | rw [if_pos rfl] at H | skip)
      obtain ⟨c15, H⟩ | ⟨c15, H⟩ := Xiu H
      ·have c15b0 : decide (0 < x4_1) = true := decide_eq_true c15
       clear c15
       (first | rw [c15b0] | (simp only [i64_w, i32_w]; rw [c15b0]) | skip)
       obtain ⟨ji16, hji16⟩ : ∃ j_ : Int, (wrap64 (x4_1 - 1)) = j_ := ⟨_, rfl⟩
       replace H : (if 0 ≤ (ji16) then (if (ji16) < (l0_2.length : Int) then (spec_l02Nodes.j1 k1 x3_1 x4_1 (decide (((rd_T64 l0_2 x4_1).f0) ≤ ((rd_T64 l0_2 (ji16)).f0))) a0_0 a0_1 l0_2 ((rd_T64 l0_2 x4_1).f0) ((rd_T64 l0_2 x4_1).f1) ((rd_T64 l0_2 x4_1).f2) ((rd_T64 l0_2 x4_1).f3) ((rd_T64 l0_2 x4_1).f4)) else (none)) else (none)) = some r := by first | (rw [hji16] at H; exact H) | (simp only [hji16] at H ⊢; exact H)
       (try rw [hji16] at A13)
       have hji16w : (IntKind.i64.wrap (x4_1 - 1)) = ji16 := (i64_w _).trans hji16
       obtain ⟨c17b0, H⟩ := Xid H
       obtain ⟨c18b0, H⟩ := Xid H
       have H' := Aside0.mk H
       clear H
       try go_wp2_with (fail)
       replace HO_3 := Aside0.mk (Kd.R_drew HO_3.out)
       replace BK115 := Aside0.mk (blk_drew BK115.out)
       replace BK121 := Aside0.mk (blk_drew BK121.out)
       replace HB := Aside0.mk (below_drew1 HB.out)
       have p123 : 0 ≤ ((ji16) : Int) := of_decide_eq_true Xa
       have q123 : (ji16) < (l0_2.length : Int) := of_decide_eq_true Xa
       obtain ⟨ad123, A123_4, c123_4, e123, hx123_0, hx123_1, hx123_2, hx123_3, hx123_4, hl123_4, hi123_4⟩ := at_T64 HR0_2.out (ji16) p123 q123
       have hw123_4 := hx123_4
       have hw123_3 := hx123_3
       have hw123_2 := hx123_2
       have hw123_1 := hx123_1
       have hw123_0 := hx123_0
       obtain rfl : ad120 = ad123 := (by injection e123)
       replace hx123_0 := Xm HB hx123_0
       replace hx123_1 := Xm HB hx123_1
       replace hx123_2 := Xm HB hx123_2
       replace hx123_3 := Xm HB hx123_3
       replace hx123_4 := Xm HB hx123_4
       have HR123_4 := Aside0.mk hi123_4
       have HC123_4 := Aside0.mk hl123_4
       clear hi123_4 hl123_4
       replace p123 := eq_true p123
       replace q123 := eq_true q123
       refine start_ (n := 21) (S := fun w' => w'.cell? ⟨gb121, 0, none⟩ = some (.int .i64 ((rd_T64 l0_2 x4_1).f0)) ∧ w'.cell? ⟨gb121, 1, none⟩ = some (.int .i64 ((rd_T64 l0_2 x4_1).f1)) ∧ w'.cell? ⟨gb121, 2, none⟩ = some (.int .i64 ((rd_T64 l0_2 x4_1).f2)) ∧ w'.cell? ⟨gb121, 3, none⟩ = some (.string ((rd_T64 l0_2 x4_1).f3)) ∧ w'.cell? ⟨gb121, 4, none⟩ = some (.slice A120_4 ((rd_T64 l0_2 x4_1).f4).length c120_4) ∧ w'.cell? ⟨gb115, 0, none⟩ = some (.int .i64 a0_0) ∧ w'.cell? ⟨gb115, 1, none⟩ = some (.int .i64 a0_1) ∧ w'.cell? ⟨gb115, 2, none⟩ = some (.slice (some ad120) l0_2.length c0_2) ∧ w'.cell? (ad120.add (((ji16)).toNat * 5)) = some (.int .i64 ((rd_T64 l0_2 (ji16)).f0)) ∧ w'.cell? ⟨(ad120.add (((ji16)).toNat * 5)).block, (ad120.add (((ji16)).toNat * 5)).off + 1, none⟩ = some (.int .i64 ((rd_T64 l0_2 (ji16)).f1)) ∧ w'.cell? ⟨(ad120.add (((ji16)).toNat * 5)).block, (ad120.add (((ji16)).toNat * 5)).off + 2, none⟩ = some (.int .i64 ((rd_T64 l0_2 (ji16)).f2)) ∧ w'.cell? ⟨(ad120.add (((ji16)).toNat * 5)).block, (ad120.add (((ji16)).toNat * 5)).off + 3, none⟩ = some (.string ((rd_T64 l0_2 (ji16)).f3)) ∧ w'.cell? ⟨(ad120.add (((ji16)).toNat * 5)).block, (ad120.add (((ji16)).toNat * 5)).off + 4, none⟩ = some (.slice A123_4 ((rd_T64 l0_2 (ji16)).f4).length c123_4)) (ds := []) #[false, false, false, false, false, false, false, false, false, false, false, false, false, false, false, false, false, false, false, false, false] (by kernel_rfl) rfl rfl ⟨(blk_cell BK121.out 0).trans rfl, (blk_cell BK121.out 1).trans rfl, (blk_cell BK121.out 2).trans rfl, (blk_cell BK121.out 3).trans rfl, (blk_cell BK121.out 4).trans rfl, (blk_cell BK115.out 0).trans rfl, (blk_cell BK115.out 1).trans rfl, (blk_cell BK115.out 2).trans rfl, Xn hw123_0, Xn hw123_1, Xn hw123_2, Xn hw123_3, Xn hw123_4⟩ (fun hHeld => ?_); refine with_tabW spec_l02Nodes.tab6 spec_l02Nodes.bits6 (fun HT_ HW_ => ?_)
       generalize w12.drew = w19 at HO_3 BK115 BK121 HB HR123_4 hx123_0 hx123_1 hx123_2 hx123_3 hx123_4 hHeld ⊢
       refine Xpu 1 21 (XW.bs 21 2) HT_.out ?_
       refine Xta 0 20 (XW.bs 21 3) HT_.out HW_.out hHeld ?_
       refine Xta 2 22 (XW.bs 21 7) HT_.out HW_.out hHeld ?_
       refine one_ (i := 3) (N := some 23) (XW.bs 21 15) rfl rfl (one_of HT_.out (by kernel_rfl)) (by decide) (fun K hK => ?_)
       refine goes_ Try.func212 (by kernel_rfl) rfl #[.agg #[.int .i64 ((rd_T64 l0_2 x4_1).f0), .int .i64 ((rd_T64 l0_2 x4_1).f1), .int .i64 ((rd_T64 l0_2 x4_1).f2), .string ((rd_T64 l0_2 x4_1).f3), .slice A120_4 ((rd_T64 l0_2 x4_1).f4).length c120_4], .int .i64 a0_1] (by rfl) rfl rfl (by (try simp only [List.map_toArray, List.map_cons, List.map_nil]); first | done | rfl | (simp only [List.length_drop, List.length_take]; rfl)) ?_
       with_reducible refine (spec_l02Node.calls ((rd_T64 l0_2 x4_1).f0) ((rd_T64 l0_2 x4_1).f1) ((rd_T64 l0_2 x4_1).f2) ((rd_T64 l0_2 x4_1).f3) _ _ ((rd_T64 l0_2 x4_1).f4) a0_1 true _ ?side1 ?side2 A13.out).mono ?_
       (case side1 => exact Xc HR120_4)
       (case side2 => exact HC120_4.out)
       rintro e w20 ⟨rfl, hb⟩
       refine ⟨_, rfl, ?_⟩
       replace HO_3 := Aside0.mk (Kd.R_below (Xq HO_3) hb)
       replace BK115 := Xbb BK115 hb
       replace BK121 := Xbb BK121 hb
       replace HB := Aside0.mk (below_step Xi hb)
       (try clear hb)
       (try clear hb2)
       (try clear hk)
       (try clear hi)
       refine hK.out _ _ ⟨(blk_cell BK121.out 0).trans rfl, (blk_cell BK121.out 1).trans rfl, (blk_cell BK121.out 2).trans rfl, (blk_cell BK121.out 3).trans rfl, (blk_cell BK121.out 4).trans rfl, (blk_cell BK115.out 0).trans rfl, (blk_cell BK115.out 1).trans rfl, (blk_cell BK115.out 2).trans rfl, Xn hw123_0, Xn hw123_1, Xn hw123_2, Xn hw123_3, Xn hw123_4⟩ (fun hHeld => ?_)
       clear hK K
       refine Xno ?_
       refine Xpu 4 24 (XW.bs 21 31) HT_.out ?_
       refine Xpu 5 25 (XW.bs 21 63) HT_.out ?_
       refine Xpu 6 26 (XW.bs 21 127) HT_.out ?_
       refine Xpu 7 27 (XW.bs 21 255) HT_.out ?_
       refine Xpu 8 28 (XW.bs 21 511) HT_.out ?_
       refine Xpu 9 29 (XW.bs 21 1023) HT_.out ?_
       refine Xpu 11 31 (XW.bs 21 3071) HT_.out ?_
       refine Xpu 13 33 (XW.bs 21 11263) HT_.out ?_
       refine Xpu 14 34 (XW.bs 21 27647) HT_.out ?_
       refine Xta 10 30 (XW.bs 21 28671) HT_.out HW_.out hHeld ?_
       refine Xta 12 32 (XW.bs 21 32767) HT_.out HW_.out hHeld ?_
       refine Xpu 15 35 (XW.bs 21 65535) HT_.out ?_
       refine Xpu 16 36 (XW.bs 21 131071) HT_.out ?_
       refine Xta 17 37 (XW.bs 21 262143) HT_.out HW_.out hHeld ?_
       refine Xpu 18 38 (XW.bs 21 524287) HT_.out ?_
       refine Xpu 19 39 (XW.bs 21 1048575) HT_.out ?_
       refine Xpu 20 40 (XW.bs 21 2097151) HT_.out ?_
       refine done_ (done_of HT_.out (by kernel_rfl)) ?_
       try go_wp2_with (fail)
       go_meet
       case rel => exact ⟨_, (decide (((rd_T64 l0_2 x4_1).f0) ≤ ((rd_T64 l0_2 (ji16)).f0))), (by first | rfl | (simp; done) | (simp only [← hji16] <;> (first | rfl | simp)) | (simp [*]; done)), H', ⟨by have := HK1.out; first | omega | exact Nat.le_refl _⟩, (Xp' HO_3), (Xp BK115), (Xp BK121), ⟨Xi⟩⟩
      ·have c15b0 : decide (0 < x4_1) = false := decide_eq_false c15
       clear c15
       (first | rw [c15b0] | (simp only [i64_w, i32_w]; rw [c15b0]) | skip)
       have H' := Aside0.mk H
       clear H
       try go_wp2_with (fail)
       replace HO_3 := Aside0.mk (Kd.R_drew HO_3.out)
       replace BK115 := Aside0.mk (blk_drew BK115.out)
       replace BK121 := Aside0.mk (blk_drew BK121.out)
       replace HB := Aside0.mk (below_drew1 HB.out)
       refine start_ (n := 21) (S := fun w' => w'.cell? ⟨gb121, 0, none⟩ = some (.int .i64 ((rd_T64 l0_2 x4_1).f0)) ∧ w'.cell? ⟨gb121, 1, none⟩ = some (.int .i64 ((rd_T64 l0_2 x4_1).f1)) ∧ w'.cell? ⟨gb121, 2, none⟩ = some (.int .i64 ((rd_T64 l0_2 x4_1).f2)) ∧ w'.cell? ⟨gb121, 3, none⟩ = some (.string ((rd_T64 l0_2 x4_1).f3)) ∧ w'.cell? ⟨gb121, 4, none⟩ = some (.slice A120_4 ((rd_T64 l0_2 x4_1).f4).length c120_4) ∧ w'.cell? ⟨gb115, 0, none⟩ = some (.int .i64 a0_0) ∧ w'.cell? ⟨gb115, 1, none⟩ = some (.int .i64 a0_1) ∧ w'.cell? ⟨gb115, 2, none⟩ = some (.slice (some ad120) l0_2.length c0_2)) (ds := []) #[false, false, false, false, false, false, false, false, false, false, false, false, false, false, false, false, false, false, false, false, false] (by kernel_rfl) rfl rfl ⟨(blk_cell BK121.out 0).trans rfl, (blk_cell BK121.out 1).trans rfl, (blk_cell BK121.out 2).trans rfl, (blk_cell BK121.out 3).trans rfl, (blk_cell BK121.out 4).trans rfl, (blk_cell BK115.out 0).trans rfl, (blk_cell BK115.out 1).trans rfl, (blk_cell BK115.out 2).trans rfl⟩ (fun hHeld => ?_); refine with_tabW spec_l02Nodes.tab6 spec_l02Nodes.bits6 (fun HT_ HW_ => ?_)
       generalize w12.drew = w21 at HO_3 BK115 BK121 HB hHeld ⊢
       refine Xpu 1 21 (XW.bs 21 2) HT_.out ?_
       refine Xta 0 20 (XW.bs 21 3) HT_.out HW_.out hHeld ?_
       refine Xta 2 22 (XW.bs 21 7) HT_.out HW_.out hHeld ?_
       refine one_ (i := 3) (N := some 23) (XW.bs 21 15) rfl rfl (one_of HT_.out (by kernel_rfl)) (by decide) (fun K hK => ?_)
       refine goes_ Try.func212 (by kernel_rfl) rfl #[.agg #[.int .i64 ((rd_T64 l0_2 x4_1).f0), .int .i64 ((rd_T64 l0_2 x4_1).f1), .int .i64 ((rd_T64 l0_2 x4_1).f2), .string ((rd_T64 l0_2 x4_1).f3), .slice A120_4 ((rd_T64 l0_2 x4_1).f4).length c120_4], .int .i64 a0_1] (by rfl) rfl rfl (by (try simp only [List.map_toArray, List.map_cons, List.map_nil]); first | done | rfl | (simp only [List.length_drop, List.length_take]; rfl)) ?_
       with_reducible refine (spec_l02Node.calls ((rd_T64 l0_2 x4_1).f0) ((rd_T64 l0_2 x4_1).f1) ((rd_T64 l0_2 x4_1).f2) ((rd_T64 l0_2 x4_1).f3) _ _ ((rd_T64 l0_2 x4_1).f4) a0_1 true _ ?side1 ?side2 A13.out).mono ?_
       (case side1 => exact Xc HR120_4)
       (case side2 => exact HC120_4.out)
       rintro e w22 ⟨rfl, hb⟩
       refine ⟨_, rfl, ?_⟩
       replace HO_3 := Aside0.mk (Kd.R_below (Xq HO_3) hb)
       replace BK115 := Xbb BK115 hb
       replace BK121 := Xbb BK121 hb
       replace HB := Aside0.mk (below_step Xi hb)
       (try clear hb)
       (try clear hb2)
       (try clear hk)
       (try clear hi)
       refine hK.out _ _ ⟨(blk_cell BK121.out 0).trans rfl, (blk_cell BK121.out 1).trans rfl, (blk_cell BK121.out 2).trans rfl, (blk_cell BK121.out 3).trans rfl, (blk_cell BK121.out 4).trans rfl, (blk_cell BK115.out 0).trans rfl, (blk_cell BK115.out 1).trans rfl, (blk_cell BK115.out 2).trans rfl⟩ (fun hHeld => ?_)
       clear hK K
       refine Xno ?_
       refine Xpu 4 24 (XW.bs 21 31) HT_.out ?_
       refine Xpu 5 25 (XW.bs 21 63) HT_.out ?_
       refine Xpu 6 26 (XW.bs 21 127) HT_.out ?_
       refine Xpu 7 27 (XW.bs 21 255) HT_.out ?_
       refine Xpu 8 28 (XW.bs 21 511) HT_.out ?_
       refine Xpn 9 29 (XW.bs 21 1023) HT_.out ?_
       refine Xpn 10 30 (XW.bs 21 2047) HT_.out ?_
       refine Xpn 11 31 (XW.bs 21 4095) HT_.out ?_
       refine Xpn 12 32 (XW.bs 21 8191) HT_.out ?_
       refine Xpn 13 33 (XW.bs 21 16383) HT_.out ?_
       refine Xpn 14 34 (XW.bs 21 32767) HT_.out ?_
       refine Xpn 15 35 (XW.bs 21 65535) HT_.out ?_
       refine Xpn 16 36 (XW.bs 21 131071) HT_.out ?_
       refine Xpn 17 37 (XW.bs 21 262143) HT_.out ?_
       refine Xpn 18 38 (XW.bs 21 524287) HT_.out ?_
       refine Xpu 19 39 (XW.bs 21 1048575) HT_.out ?_
       refine Xpu 20 40 (XW.bs 21 2097151) HT_.out ?_
       refine done_ (done_of HT_.out (by kernel_rfl)) ?_
       try go_wp2_with (fail)
       go_meet
       case rel => exact ⟨_, (false), Xr, H', ⟨by have := HK1.out; first | omega | exact Nat.le_refl _⟩, (Xp' HO_3), (Xp BK115), (Xp BK121), ⟨Xi⟩⟩
     ·replace c14 := Bool.eq_false_iff.mpr c14
      subst c14
      (first | rw [if_neg (show ¬ (false = true) by decide)] at H | skip)
      have H' := Aside0.mk H
      clear H
      try go_wp2_with (fail)
      replace HO_3 := Aside0.mk (Kd.R_drew HO_3.out)
      replace BK115 := Aside0.mk (blk_drew BK115.out)
      replace BK121 := Aside0.mk (blk_drew BK121.out)
      replace HB := Aside0.mk (below_drew1 HB.out)
      refine start_ (n := 21) (S := fun w' => w'.cell? ⟨gb121, 0, none⟩ = some (.int .i64 ((rd_T64 l0_2 x4_1).f0)) ∧ w'.cell? ⟨gb121, 1, none⟩ = some (.int .i64 ((rd_T64 l0_2 x4_1).f1)) ∧ w'.cell? ⟨gb121, 2, none⟩ = some (.int .i64 ((rd_T64 l0_2 x4_1).f2)) ∧ w'.cell? ⟨gb121, 3, none⟩ = some (.string ((rd_T64 l0_2 x4_1).f3)) ∧ w'.cell? ⟨gb121, 4, none⟩ = some (.slice A120_4 ((rd_T64 l0_2 x4_1).f4).length c120_4) ∧ w'.cell? ⟨gb115, 0, none⟩ = some (.int .i64 a0_0) ∧ w'.cell? ⟨gb115, 1, none⟩ = some (.int .i64 a0_1) ∧ w'.cell? ⟨gb115, 2, none⟩ = some (.slice (some ad120) l0_2.length c0_2)) (ds := []) #[false, false, false, false, false, false, false, false, false, false, false, false, false, false, false, false, false, false, false, false, false] (by kernel_rfl) rfl rfl ⟨(blk_cell BK121.out 0).trans rfl, (blk_cell BK121.out 1).trans rfl, (blk_cell BK121.out 2).trans rfl, (blk_cell BK121.out 3).trans rfl, (blk_cell BK121.out 4).trans rfl, (blk_cell BK115.out 0).trans rfl, (blk_cell BK115.out 1).trans rfl, (blk_cell BK115.out 2).trans rfl⟩ (fun hHeld => ?_); refine with_tabW spec_l02Nodes.tab6 spec_l02Nodes.bits6 (fun HT_ HW_ => ?_)
      generalize w12.drew = w23 at HO_3 BK115 BK121 HB hHeld ⊢
      refine Xpu 1 21 (XW.bs 21 2) HT_.out ?_
      refine Xta 0 20 (XW.bs 21 3) HT_.out HW_.out hHeld ?_
      refine Xta 2 22 (XW.bs 21 7) HT_.out HW_.out hHeld ?_
      refine one_ (i := 3) (N := some 23) (XW.bs 21 15) rfl rfl (one_of HT_.out (by kernel_rfl)) (by decide) (fun K hK => ?_)
      refine goes_ Try.func212 (by kernel_rfl) rfl #[.agg #[.int .i64 ((rd_T64 l0_2 x4_1).f0), .int .i64 ((rd_T64 l0_2 x4_1).f1), .int .i64 ((rd_T64 l0_2 x4_1).f2), .string ((rd_T64 l0_2 x4_1).f3), .slice A120_4 ((rd_T64 l0_2 x4_1).f4).length c120_4], .int .i64 a0_1] (by rfl) rfl rfl (by (try simp only [List.map_toArray, List.map_cons, List.map_nil]); first | done | rfl | (simp only [List.length_drop, List.length_take]; rfl)) ?_
      with_reducible refine (spec_l02Node.calls ((rd_T64 l0_2 x4_1).f0) ((rd_T64 l0_2 x4_1).f1) ((rd_T64 l0_2 x4_1).f2) ((rd_T64 l0_2 x4_1).f3) _ _ ((rd_T64 l0_2 x4_1).f4) a0_1 false _ ?side1 ?side2 A13.out).mono ?_
      (case side1 => exact Xc HR120_4)
      (case side2 => exact HC120_4.out)
      rintro e w24 ⟨rfl, hb⟩
      refine ⟨_, rfl, ?_⟩
      replace HO_3 := Aside0.mk (Kd.R_below (Xq HO_3) hb)
      replace BK115 := Xbb BK115 hb
      replace BK121 := Xbb BK121 hb
      replace HB := Aside0.mk (below_step Xi hb)
      (try clear hb)
      (try clear hb2)
      (try clear hk)
      (try clear hi)
      refine hK.out _ _ ⟨(blk_cell BK121.out 0).trans rfl, (blk_cell BK121.out 1).trans rfl, (blk_cell BK121.out 2).trans rfl, (blk_cell BK121.out 3).trans rfl, (blk_cell BK121.out 4).trans rfl, (blk_cell BK115.out 0).trans rfl, (blk_cell BK115.out 1).trans rfl, (blk_cell BK115.out 2).trans rfl⟩ (fun hHeld => ?_)
      clear hK K
      refine Xno ?_
      refine Xpu 4 24 (XW.bs 21 31) HT_.out ?_
      refine Xpu 5 25 (XW.bs 21 63) HT_.out ?_
      refine Xpn 6 26 (XW.bs 21 127) HT_.out ?_
      refine Xpn 7 27 (XW.bs 21 255) HT_.out ?_
      refine Xpn 8 28 (XW.bs 21 511) HT_.out ?_
      refine Xpn 9 29 (XW.bs 21 1023) HT_.out ?_
      refine Xpn 10 30 (XW.bs 21 2047) HT_.out ?_
      refine Xpn 11 31 (XW.bs 21 4095) HT_.out ?_
      refine Xpn 12 32 (XW.bs 21 8191) HT_.out ?_
      refine Xpn 13 33 (XW.bs 21 16383) HT_.out ?_
      refine Xpn 14 34 (XW.bs 21 32767) HT_.out ?_
      refine Xpn 15 35 (XW.bs 21 65535) HT_.out ?_
      refine Xpn 16 36 (XW.bs 21 131071) HT_.out ?_
      refine Xpn 17 37 (XW.bs 21 262143) HT_.out ?_
      refine Xpn 18 38 (XW.bs 21 524287) HT_.out ?_
      refine Xpn 19 39 (XW.bs 21 1048575) HT_.out ?_
      refine Xpu 20 40 (XW.bs 21 2097151) HT_.out ?_
      refine done_ (done_of HT_.out (by kernel_rfl)) ?_
      try go_wp2_with (fail)
      go_meet
      case rel => exact ⟨_, (true), Xr, H', ⟨by have := HK1.out; first | omega | exact Nat.le_refl _⟩, (Xp' HO_3), (Xp BK115), (Xp BK121), ⟨Xi⟩⟩
    case rest =>
     clear HC7
     (try clear c5); (try clear c5b0); (try clear c6); (try clear c6b0); (try clear hcz11_0); (try clear hcz11_1); (try clear hcz11_2); (try clear hcz11_3); (try clear hcz11_4); (try clear hcz8_0); (try clear hcz8_1); (try clear hcz8_2); (try clear hfz11_0); (try clear hfz11_1); (try clear hfz11_2); (try clear hfz11_3); (try clear hfz11_4); (try clear hfz8_0); (try clear hfz8_1); (try clear hfz8_2); (try clear hx120_0); (try clear hx120_1); (try clear hx120_2); (try clear hx120_3); (try clear hx120_4); (try clear p120); (try clear q120)
     obtain ⟨kq, x40_6, rfl, HA, HJ6, HO_3, BK115, BK121, HB⟩ := hcut
     cases kq with
     | zero => cases HA.out
     | succ kj6 =>
      have H := HA.out
      clear HA
      simp only [spec_l02Nodes.j1] at H
      by_cases c25 : x40_6 = true
      ·subst c25
       (first | rw [if_pos rfl] at H | skip)
       obtain rfl := Option.some.inj H
       go_wp2
       go_ret
       exact ⟨Xe, Xi⟩
      ·replace c25 := Bool.eq_false_iff.mpr c25
       subst c25
       (first | rw [if_neg (show ¬ (false = true) by decide)] at H | skip)
       have H' := Aside0.mk H
       clear H
       go_wp2
       go_loopg [3, 6] kj6 (fun kq v3 v6 w' => ∃ (x3_3 : List Int) (x6_3 : Int), v6 = .int .i64 x6_3 ∧ Aside0 (spec_l02Nodes.l1 kq x3_3 x4_1 x6_3 a0_0 a0_1 l0_2 ((rd_T64 l0_2 x4_1).f0) ((rd_T64 l0_2 x4_1).f1) ((rd_T64 l0_2 x4_1).f2) ((rd_T64 l0_2 x4_1).f3) ((rd_T64 l0_2 x4_1).f4) = some r) ∧ Aside0 (kq ≤ kj6) ∧ Aside0 (Kd.R (Kd.int .i64) 3 w' w.heap.size (fun _ => True) v3 x3_3) ∧ Aside0 (w'.heap[gb115]? = some (.cells #[.int .i64 a0_0, .int .i64 a0_1, (.slice (some ad120) l0_2.length c0_2)] 35 (0, 0))) ∧ Aside0 (w'.heap[gb121]? = some (.cells #[.int .i64 ((rd_T64 l0_2 x4_1).f0), .int .i64 ((rd_T64 l0_2 x4_1).f1), .int .i64 ((rd_T64 l0_2 x4_1).f2), .string ((rd_T64 l0_2 x4_1).f3), (.slice A120_4 ((rd_T64 l0_2 x4_1).f4).length c120_4)] 64 (0, 0))) ∧ Aside0 (Below w.heap.size w w'))
       case atStart => exact ⟨(x3_1), (0), Xr, H', Xkr, (Xp' HO_3), (Xp BK115), (Xp BK121), ⟨Xi⟩⟩
       case round =>
        clear H'
        (try clear c5); (try clear c5b0); (try clear c6); (try clear c6b0); (try clear c25); (try clear hcz11_0); (try clear hcz11_1); (try clear hcz11_2); (try clear hcz11_3); (try clear hcz11_4); (try clear hcz8_0); (try clear hcz8_1); (try clear hcz8_2); (try clear hfz11_0); (try clear hfz11_1); (try clear hfz11_2); (try clear hfz11_3); (try clear hfz11_4); (try clear hfz8_0); (try clear hfz8_1); (try clear hfz8_2); (try clear hx120_0); (try clear hx120_1); (try clear hx120_2); (try clear hx120_3); (try clear hx120_4); (try clear p120); (try clear q120)
        obtain ⟨x3_3, x6_3, rfl, HA, HK3, HO_3, BK115, BK121, HB⟩ := hrel
        cases gk with
        | zero => cases HA.out
        | succ k3 =>
         have H := HA.out
         clear HA
         simp only [spec_l02Nodes.l1] at H
         obtain ⟨c26b0, H⟩ | ⟨c26b0, H⟩ := Xit H
         ·obtain ⟨c27b0, H⟩ := Xid H
          obtain ⟨c28, H⟩ | ⟨c28, H⟩ := Xiu H
          ·have c28b0 : ((rd ((rd_T64 l0_2 x4_1).f4) x6_3) == a0_0) = true := beq_iff_eq.mpr c28
           have c28b1 : ((rd ((rd_T64 l0_2 x4_1).f4) x6_3) != a0_0) = false := bne_eq_false_iff_eq.mpr c28
           clear c28
           obtain rfl := Option.some.inj H
           have hnb29 := NB121_115.out
           have hnc29 := NB115_121.out
           obtain ⟨hcz30_0, hcz30_1, hcz30_2, hcz30_3, hcz30_4⟩ := Xc5 BK121
           obtain ⟨hfz30_0, hfz30_1, hfz30_2, hfz30_3, hfz30_4⟩ := Xf5 BK121
           try go_wp2_with (fail)
           replace HO_3 := Aside0.mk (Kd.R_drew HO_3.out)
           replace BK115 := Aside0.mk (blk_drew BK115.out)
           replace BK121 := Aside0.mk (blk_drew BK121.out)
           replace HB := Aside0.mk (below_drew1 HB.out)
           have p124 : 0 ≤ (x6_3 : Int) := of_decide_eq_true Xa
           have q124 : x6_3 < (((rd_T64 l0_2 x4_1).f4).length : Int) := of_decide_eq_true Xa
           obtain ⟨ad124, e124, hx124_0⟩ := Kd.at_int HR120_4.out x6_3 p124 q124
           have hw124_0 := hx124_0
           cases e124
           replace hx124_0 := Xm HB hx124_0
           replace p124 := eq_true p124
           replace q124 := eq_true q124
           refine start_ (n := 27) (S := fun w' => w'.cell? ⟨gb121, 0, none⟩ = some (.int .i64 ((rd_T64 l0_2 x4_1).f0)) ∧ w'.cell? ⟨gb121, 1, none⟩ = some (.int .i64 ((rd_T64 l0_2 x4_1).f1)) ∧ w'.cell? ⟨gb121, 2, none⟩ = some (.int .i64 ((rd_T64 l0_2 x4_1).f2)) ∧ w'.cell? ⟨gb121, 3, none⟩ = some (.string ((rd_T64 l0_2 x4_1).f3)) ∧ w'.cell? ⟨gb121, 4, none⟩ = some (.slice (some ad124) ((rd_T64 l0_2 x4_1).f4).length c120_4) ∧ w'.cell? ⟨gb115, 0, none⟩ = some (.int .i64 a0_0) ∧ w'.cell? ⟨gb115, 1, none⟩ = some (.int .i64 a0_1) ∧ w'.cell? ⟨gb115, 2, none⟩ = some (.slice (some ad120) l0_2.length c0_2) ∧ w'.cell? (ad124.add (x6_3).toNat) = some (.int .i64 (rd ((rd_T64 l0_2 x4_1).f4) x6_3))) (ds := []) #[false, false, false, false, false, false, false, false, false, false, false, false, false, false, false, false, false, false, false, false, false, false, false, false, false, false, false] (by kernel_rfl) rfl rfl ⟨(blk_cell BK121.out 0).trans rfl, (blk_cell BK121.out 1).trans rfl, (blk_cell BK121.out 2).trans rfl, (blk_cell BK121.out 3).trans rfl, (blk_cell BK121.out 4).trans rfl, (blk_cell BK115.out 0).trans rfl, (blk_cell BK115.out 1).trans rfl, (blk_cell BK115.out 2).trans rfl, Xn hw124_0⟩ (fun hHeld => ?_); refine with_tabW spec_l02Nodes.tab11 spec_l02Nodes.bits11 (fun HT_ HW_ => ?_)
           generalize wr.drew = w31 at HO_3 BK115 BK121 HB hx124_0 hHeld ⊢
           refine Xpu 0 48 (XW.bs 27 1) HT_.out ?_
           refine Xpu 2 50 (XW.bs 27 5) HT_.out ?_
           refine Xpu 5 53 (XW.bs 27 37) HT_.out ?_
           refine Xta 1 49 (XW.bs 27 39) HT_.out HW_.out hHeld ?_
           refine Xpu 3 51 (XW.bs 27 47) HT_.out ?_
           refine Xta 4 52 (XW.bs 27 63) HT_.out HW_.out hHeld ?_
           refine Xta 6 54 (XW.bs 27 127) HT_.out HW_.out hHeld ?_
           refine Xpu 7 55 (XW.bs 27 255) HT_.out ?_
           refine Xpu 8 56 (XW.bs 27 511) HT_.out ?_
           refine Xpn 9 57 (XW.bs 27 1023) HT_.out ?_
           refine Xpn 10 58 (XW.bs 27 2047) HT_.out ?_
           refine Xpn 11 59 (XW.bs 27 4095) HT_.out ?_
           refine Xpn 12 60 (XW.bs 27 8191) HT_.out ?_
           refine Xpn 13 61 (XW.bs 27 16383) HT_.out ?_
           refine Xpn 14 62 (XW.bs 27 32767) HT_.out ?_
           refine Xpn 15 63 (XW.bs 27 65535) HT_.out ?_
           refine Xpu 16 64 (XW.bs 27 131071) HT_.out ?_
           refine Xpu 17 65 (XW.bs 27 262143) HT_.out ?_
           refine Xpn 18 66 (XW.bs 27 524287) HT_.out ?_
           refine Xpn 19 67 (XW.bs 27 1048575) HT_.out ?_
           refine Xpn 20 68 (XW.bs 27 2097151) HT_.out ?_
           refine Xpn 21 69 (XW.bs 27 4194303) HT_.out ?_
           refine Xpn 22 70 (XW.bs 27 8388607) HT_.out ?_
           refine Xpn 23 71 (XW.bs 27 16777215) HT_.out ?_
           refine Xpn 24 72 (XW.bs 27 33554431) HT_.out ?_
           refine Xpn 25 73 (XW.bs 27 67108863) HT_.out ?_
           refine Xpu 26 74 (XW.bs 27 134217727) HT_.out ?_
           refine done_ (done_of HT_.out (by kernel_rfl)) ?_
           try go_wp2_with (fail)
           go_ret
           exact ⟨Xe, Xi⟩
          ·have c28b0 : ((rd ((rd_T64 l0_2 x4_1).f4) x6_3) == a0_0) = false := beq_eq_false_iff_ne.mpr c28
           have c28b1 : ((rd ((rd_T64 l0_2 x4_1).f4) x6_3) != a0_0) = true := bne_iff_ne.mpr c28
           obtain ⟨t126, A32, H⟩ := Xbi H
           (try dsimp only at H)
           by_cases c33 : t126 = true
           ·subst c33
            (first | rw [if_pos rfl] at H | skip)
            obtain rfl := Option.some.inj H
            have hnb34 := NB121_115.out
            have hnc34 := NB115_121.out
            obtain ⟨hcz35_0, hcz35_1, hcz35_2, hcz35_3, hcz35_4⟩ := Xc5 BK121
            obtain ⟨hfz35_0, hfz35_1, hfz35_2, hfz35_3, hfz35_4⟩ := Xf5 BK121
            try go_wp2_with (fail)
            replace HO_3 := Aside0.mk (Kd.R_drew HO_3.out)
            replace BK115 := Aside0.mk (blk_drew BK115.out)
            replace BK121 := Aside0.mk (blk_drew BK121.out)
            replace HB := Aside0.mk (below_drew1 HB.out)
            have p124 : 0 ≤ (x6_3 : Int) := of_decide_eq_true Xa
            have q124 : x6_3 < (((rd_T64 l0_2 x4_1).f4).length : Int) := of_decide_eq_true Xa
            obtain ⟨ad124, e124, hx124_0⟩ := Kd.at_int HR120_4.out x6_3 p124 q124
            have hw124_0 := hx124_0
            cases e124
            replace hx124_0 := Xm HB hx124_0
            replace p124 := eq_true p124
            replace q124 := eq_true q124
            have p125 : 0 ≤ (x6_3 : Int) := of_decide_eq_true Xa
            have q125 : x6_3 < (((rd_T64 l0_2 x4_1).f4).length : Int) := of_decide_eq_true Xa
            obtain ⟨ad125, e125, hx125_0⟩ := Kd.at_int HR120_4.out x6_3 p125 q125
            have hw125_0 := hx125_0
            obtain rfl : ad124 = ad125 := (by injection e125)
            replace hx125_0 := Xm HB hx125_0
            replace p125 := eq_true p125
            replace q125 := eq_true q125
            obtain ⟨Ao37, co37, eo37⟩ := Kd.R_slice HO_3.out
            (first | subst eo37 | (injection eo37 with f1_ f2_ f3_; have f4_ := f1_.symm; have f5_ := f3_.symm; clear f1_ f2_ f3_; subst f4_; subst f5_))
            refine start_ (n := 27) (S := fun w' => w'.cell? ⟨gb121, 0, none⟩ = some (.int .i64 ((rd_T64 l0_2 x4_1).f0)) ∧ w'.cell? ⟨gb121, 1, none⟩ = some (.int .i64 ((rd_T64 l0_2 x4_1).f1)) ∧ w'.cell? ⟨gb121, 2, none⟩ = some (.int .i64 ((rd_T64 l0_2 x4_1).f2)) ∧ w'.cell? ⟨gb121, 3, none⟩ = some (.string ((rd_T64 l0_2 x4_1).f3)) ∧ w'.cell? ⟨gb121, 4, none⟩ = some (.slice (some ad124) ((rd_T64 l0_2 x4_1).f4).length c120_4) ∧ w'.cell? ⟨gb115, 0, none⟩ = some (.int .i64 a0_0) ∧ w'.cell? ⟨gb115, 1, none⟩ = some (.int .i64 a0_1) ∧ w'.cell? ⟨gb115, 2, none⟩ = some (.slice (some ad120) l0_2.length c0_2) ∧ w'.cell? (ad124.add (x6_3).toNat) = some (.int .i64 (rd ((rd_T64 l0_2 x4_1).f4) x6_3)) ∧ w'.cell? (ad124.add (x6_3).toNat) = some (.int .i64 (rd ((rd_T64 l0_2 x4_1).f4) x6_3))) (ds := []) #[false, false, false, false, false, false, false, false, false, false, false, false, false, false, false, false, false, false, false, false, false, false, false, false, false, false, false] (by kernel_rfl) rfl rfl ⟨(blk_cell BK121.out 0).trans rfl, (blk_cell BK121.out 1).trans rfl, (blk_cell BK121.out 2).trans rfl, (blk_cell BK121.out 3).trans rfl, (blk_cell BK121.out 4).trans rfl, (blk_cell BK115.out 0).trans rfl, (blk_cell BK115.out 1).trans rfl, (blk_cell BK115.out 2).trans rfl, Xn hw124_0, Xn hw125_0⟩ (fun hHeld => ?_); refine with_tabW spec_l02Nodes.tab11 spec_l02Nodes.bits11 (fun HT_ HW_ => ?_)
            generalize wr.drew = w36 at HO_3 BK115 BK121 HB hx124_0 hx125_0 hHeld ⊢
            refine Xpu 0 48 (XW.bs 27 1) HT_.out ?_
            refine Xpu 2 50 (XW.bs 27 5) HT_.out ?_
            refine Xpu 5 53 (XW.bs 27 37) HT_.out ?_
            refine Xta 1 49 (XW.bs 27 39) HT_.out HW_.out hHeld ?_
            refine Xpu 3 51 (XW.bs 27 47) HT_.out ?_
            refine Xta 4 52 (XW.bs 27 63) HT_.out HW_.out hHeld ?_
            refine Xta 6 54 (XW.bs 27 127) HT_.out HW_.out hHeld ?_
            refine Xpu 7 55 (XW.bs 27 255) HT_.out ?_
            refine Xpu 8 56 (XW.bs 27 511) HT_.out ?_
            refine Xpu 9 57 (XW.bs 27 1023) HT_.out ?_
            refine Xpu 10 58 (XW.bs 27 2047) HT_.out ?_
            refine Xpu 12 60 (XW.bs 27 6143) HT_.out ?_
            refine Xta 11 59 (XW.bs 27 8191) HT_.out HW_.out hHeld ?_
            refine Xpu 13 61 (XW.bs 27 16383) HT_.out ?_
            refine Xta 14 62 (XW.bs 27 32767) HT_.out HW_.out hHeld ?_
            refine one_ (i := 15) (N := some 63) (XW.bs 27 65535) rfl rfl (one_of HT_.out (by kernel_rfl)) (by decide) (fun K hK => ?_)
            refine goes_ Try.func152 (by kernel_rfl) rfl #[.slice Ao37 x3_3.length co37, .int .i64 (rd ((rd_T64 l0_2 x4_1).f4) x6_3)] (by rfl) rfl rfl (by (try simp only [List.map_toArray, List.map_cons, List.map_nil]); first | done | rfl | (simp only [List.length_drop, List.length_take]; rfl)) ?_
            with_reducible refine (spec_l02Has.calls k3 _ _ x3_3 (rd ((rd_T64 l0_2 x4_1).f4) x6_3) true _ ?side1 ?side2 A32.out).mono ?_
            (case side1 => repeat (first | exact (Kd.R_reads' HO_3.out).2.2 | (with_reducible first | refine Kd.C_alloc ?_ _ | refine Kd.C_drewN ?_ _ | refine Kd.C_drew ?_)))
            (case side2 => exact (Kd.R_reads' HO_3.out).2.1)
            rintro e w' ⟨rfl, ⟨nd, rfl⟩⟩
            refine ⟨_, rfl, ?_⟩
            refine hK.out _ _ ⟨(blk_cell BK121.out 0).trans rfl, (blk_cell BK121.out 1).trans rfl, (blk_cell BK121.out 2).trans rfl, (blk_cell BK121.out 3).trans rfl, (blk_cell BK121.out 4).trans rfl, (blk_cell BK115.out 0).trans rfl, (blk_cell BK115.out 1).trans rfl, (blk_cell BK115.out 2).trans rfl, Xn hw124_0, Xn hw125_0⟩ (fun hHeld => ?_)
            clear hK K
            refine Xno ?_
            refine Xpu 16 64 (XW.bs 27 131071) HT_.out ?_
            refine Xpu 17 65 (XW.bs 27 262143) HT_.out ?_
            refine Xpn 18 66 (XW.bs 27 524287) HT_.out ?_
            refine Xpn 19 67 (XW.bs 27 1048575) HT_.out ?_
            refine Xpn 20 68 (XW.bs 27 2097151) HT_.out ?_
            refine Xpn 21 69 (XW.bs 27 4194303) HT_.out ?_
            refine Xpn 22 70 (XW.bs 27 8388607) HT_.out ?_
            refine Xpn 23 71 (XW.bs 27 16777215) HT_.out ?_
            refine Xpn 24 72 (XW.bs 27 33554431) HT_.out ?_
            refine Xpn 25 73 (XW.bs 27 67108863) HT_.out ?_
            refine Xpu 26 74 (XW.bs 27 134217727) HT_.out ?_
            refine done_ (done_of HT_.out (by kernel_rfl)) ?_
            try go_wp2_with (fail)
            go_ret
            exact ⟨Xe, Xi⟩
           ·replace c33 := Bool.eq_false_iff.mpr c33
            subst c33
            (first | rw [if_neg (show ¬ (false = true) by decide)] at H | skip)
            obtain ⟨t128, A38, H⟩ := Xbi H
            (try dsimp only at H)
            have HC39 := Aside0.mk H
            clear H
            have hnb40 := NB121_115.out
            have hnc40 := NB115_121.out
            obtain ⟨hcz41_0, hcz41_1, hcz41_2, hcz41_3, hcz41_4⟩ := Xc5 BK121
            obtain ⟨hfz41_0, hfz41_1, hfz41_2, hfz41_3, hfz41_4⟩ := Xf5 BK121
            try go_wp2_with (fail)
            replace HO_3 := Aside0.mk (Kd.R_drew HO_3.out)
            replace BK115 := Aside0.mk (blk_drew BK115.out)
            replace BK121 := Aside0.mk (blk_drew BK121.out)
            replace HB := Aside0.mk (below_drew1 HB.out)
            have p124 : 0 ≤ (x6_3 : Int) := of_decide_eq_true Xa
            have q124 : x6_3 < (((rd_T64 l0_2 x4_1).f4).length : Int) := of_decide_eq_true Xa
            obtain ⟨ad124, e124, hx124_0⟩ := Kd.at_int HR120_4.out x6_3 p124 q124
            have hw124_0 := hx124_0
            cases e124
            replace hx124_0 := Xm HB hx124_0
            replace p124 := eq_true p124
            replace q124 := eq_true q124
            have p125 : 0 ≤ (x6_3 : Int) := of_decide_eq_true Xa
            have q125 : x6_3 < (((rd_T64 l0_2 x4_1).f4).length : Int) := of_decide_eq_true Xa
            obtain ⟨ad125, e125, hx125_0⟩ := Kd.at_int HR120_4.out x6_3 p125 q125
            have hw125_0 := hx125_0
            obtain rfl : ad124 = ad125 := (by injection e125)
            replace hx125_0 := Xm HB hx125_0
            replace p125 := eq_true p125
            replace q125 := eq_true q125
            obtain ⟨Ao43, co43, eo43⟩ := Kd.R_slice HO_3.out
            (first | subst eo43 | (injection eo43 with f1_ f2_ f3_; have f4_ := f1_.symm; have f5_ := f3_.symm; clear f1_ f2_ f3_; subst f4_; subst f5_))
            have p127 : 0 ≤ (x6_3 : Int) := of_decide_eq_true Xa
            have q127 : x6_3 < (((rd_T64 l0_2 x4_1).f4).length : Int) := of_decide_eq_true Xa
            obtain ⟨ad127, e127, hx127_0⟩ := Kd.at_int HR120_4.out x6_3 p127 q127
            have hw127_0 := hx127_0
            obtain rfl : ad124 = ad127 := (by injection e127)
            replace hx127_0 := Xm HB hx127_0
            replace p127 := eq_true p127
            replace q127 := eq_true q127
            refine start_ (n := 27) (S := fun w' => w'.cell? ⟨gb121, 0, none⟩ = some (.int .i64 ((rd_T64 l0_2 x4_1).f0)) ∧ w'.cell? ⟨gb121, 1, none⟩ = some (.int .i64 ((rd_T64 l0_2 x4_1).f1)) ∧ w'.cell? ⟨gb121, 2, none⟩ = some (.int .i64 ((rd_T64 l0_2 x4_1).f2)) ∧ w'.cell? ⟨gb121, 3, none⟩ = some (.string ((rd_T64 l0_2 x4_1).f3)) ∧ w'.cell? ⟨gb121, 4, none⟩ = some (.slice (some ad124) ((rd_T64 l0_2 x4_1).f4).length c120_4) ∧ w'.cell? ⟨gb115, 0, none⟩ = some (.int .i64 a0_0) ∧ w'.cell? ⟨gb115, 1, none⟩ = some (.int .i64 a0_1) ∧ w'.cell? ⟨gb115, 2, none⟩ = some (.slice (some ad120) l0_2.length c0_2) ∧ w'.cell? (ad124.add (x6_3).toNat) = some (.int .i64 (rd ((rd_T64 l0_2 x4_1).f4) x6_3)) ∧ w'.cell? (ad124.add (x6_3).toNat) = some (.int .i64 (rd ((rd_T64 l0_2 x4_1).f4) x6_3)) ∧ w'.cell? (ad124.add (x6_3).toNat) = some (.int .i64 (rd ((rd_T64 l0_2 x4_1).f4) x6_3))) (ds := []) #[false, false, false, false, false, false, false, false, false, false, false, false, false, false, false, false, false, false, false, false, false, false, false, false, false, false, false] (by kernel_rfl) rfl rfl ⟨(blk_cell BK121.out 0).trans rfl, (blk_cell BK121.out 1).trans rfl, (blk_cell BK121.out 2).trans rfl, (blk_cell BK121.out 3).trans rfl, (blk_cell BK121.out 4).trans rfl, (blk_cell BK115.out 0).trans rfl, (blk_cell BK115.out 1).trans rfl, (blk_cell BK115.out 2).trans rfl, Xn hw124_0, Xn hw125_0, Xn hw127_0⟩ (fun hHeld => ?_); refine with_tabW spec_l02Nodes.tab11 spec_l02Nodes.bits11 (fun HT_ HW_ => ?_)
            generalize wr.drew = w42 at HO_3 BK115 BK121 HB hx124_0 hx125_0 hx127_0 hHeld ⊢
            refine Xpu 0 48 (XW.bs 27 1) HT_.out ?_
            refine Xpu 2 50 (XW.bs 27 5) HT_.out ?_
            refine Xpu 5 53 (XW.bs 27 37) HT_.out ?_
            refine Xta 1 49 (XW.bs 27 39) HT_.out HW_.out hHeld ?_
            refine Xpu 3 51 (XW.bs 27 47) HT_.out ?_
            refine Xta 4 52 (XW.bs 27 63) HT_.out HW_.out hHeld ?_
            refine Xta 6 54 (XW.bs 27 127) HT_.out HW_.out hHeld ?_
            refine Xpu 7 55 (XW.bs 27 255) HT_.out ?_
            refine Xpu 8 56 (XW.bs 27 511) HT_.out ?_
            refine Xpu 9 57 (XW.bs 27 1023) HT_.out ?_
            refine Xpu 10 58 (XW.bs 27 2047) HT_.out ?_
            refine Xpu 12 60 (XW.bs 27 6143) HT_.out ?_
            refine Xta 11 59 (XW.bs 27 8191) HT_.out HW_.out hHeld ?_
            refine Xpu 13 61 (XW.bs 27 16383) HT_.out ?_
            refine Xta 14 62 (XW.bs 27 32767) HT_.out HW_.out hHeld ?_
            refine one_ (i := 15) (N := some 63) (XW.bs 27 65535) rfl rfl (one_of HT_.out (by kernel_rfl)) (by decide) (fun K hK => ?_)
            refine goes_ Try.func152 (by kernel_rfl) rfl #[.slice Ao43 x3_3.length co43, .int .i64 (rd ((rd_T64 l0_2 x4_1).f4) x6_3)] (by rfl) rfl rfl (by (try simp only [List.map_toArray, List.map_cons, List.map_nil]); first | done | rfl | (simp only [List.length_drop, List.length_take]; rfl)) ?_
            with_reducible refine (spec_l02Has.calls k3 _ _ x3_3 (rd ((rd_T64 l0_2 x4_1).f4) x6_3) false _ ?side1 ?side2 A32.out).mono ?_
            (case side1 => repeat (first | exact (Kd.R_reads' HO_3.out).2.2 | (with_reducible first | refine Kd.C_alloc ?_ _ | refine Kd.C_drewN ?_ _ | refine Kd.C_drew ?_)))
            (case side2 => exact (Kd.R_reads' HO_3.out).2.1)
            rintro e w' ⟨rfl, ⟨nd, rfl⟩⟩
            refine ⟨_, rfl, ?_⟩
            refine hK.out _ _ ⟨(blk_cell BK121.out 0).trans rfl, (blk_cell BK121.out 1).trans rfl, (blk_cell BK121.out 2).trans rfl, (blk_cell BK121.out 3).trans rfl, (blk_cell BK121.out 4).trans rfl, (blk_cell BK115.out 0).trans rfl, (blk_cell BK115.out 1).trans rfl, (blk_cell BK115.out 2).trans rfl, Xn hw124_0, Xn hw125_0, Xn hw127_0⟩ (fun hHeld => ?_)
            clear hK K
            refine Xno ?_
            refine Xpu 16 64 (XW.bs 27 131071) HT_.out ?_
            refine Xpu 17 65 (XW.bs 27 262143) HT_.out ?_
            refine Xpu 19 67 (XW.bs 27 786431) HT_.out ?_
            refine Xpu 21 69 (XW.bs 27 2883583) HT_.out ?_
            refine Xta 18 66 (XW.bs 27 3145727) HT_.out HW_.out hHeld ?_
            refine Xta 20 68 (XW.bs 27 4194303) HT_.out HW_.out hHeld ?_
            refine Xpu 22 70 (XW.bs 27 8388607) HT_.out ?_
            refine Xta 23 71 (XW.bs 27 16777215) HT_.out HW_.out hHeld ?_
            refine one_ (i := 24) (N := some 72) (XW.bs 27 33554431) rfl rfl (one_of HT_.out (by kernel_rfl)) (by decide) (fun K hK => ?_)
            refine goes_ Try.func113 (by kernel_rfl) rfl #[.agg #[.int .i64 a0_0, .int .i64 a0_1, .slice (some ad120) l0_2.length c0_2], .int .i64 (rd ((rd_T64 l0_2 x4_1).f4) x6_3)] (by rfl) rfl rfl (by (try simp only [List.map_toArray, List.map_cons, List.map_nil]); first | done | rfl | (simp only [List.length_drop, List.length_take]; rfl)) ?_
            with_reducible refine (spec_l02At.calls k3 a0_0 a0_1 _ _ l0_2 (rd ((rd_T64 l0_2 x4_1).f4) x6_3) t128 _ ?side1 ?side2 A38.out).mono ?_
            (case side1 => exact Xc HR0_2)
            (case side2 => exact HC0_2.out)
            rintro e w44 ⟨rfl, hb⟩
            refine ⟨_, rfl, ?_⟩
            replace HO_3 := Aside0.mk (Kd.R_below (Xq HO_3) hb)
            replace BK115 := Xbb BK115 hb
            replace BK121 := Xbb BK121 hb
            replace HB := Aside0.mk (below_step Xi hb)
            (try clear hb)
            (try clear hb2)
            (try clear hk)
            (try clear hi)
            refine hK.out _ _ ⟨(blk_cell BK121.out 0).trans rfl, (blk_cell BK121.out 1).trans rfl, (blk_cell BK121.out 2).trans rfl, (blk_cell BK121.out 3).trans rfl, (blk_cell BK121.out 4).trans rfl, (blk_cell BK115.out 0).trans rfl, (blk_cell BK115.out 1).trans rfl, (blk_cell BK115.out 2).trans rfl, Xn hw124_0, Xn hw125_0, Xn hw127_0⟩ (fun hHeld => ?_)
            clear hK K
            refine Xno ?_
            refine Xpu 25 73 (XW.bs 27 67108863) HT_.out ?_
            refine Xpu 26 74 (XW.bs 27 134217727) HT_.out ?_
            refine done_ (done_of HT_.out (by kernel_rfl)) ?_
            go_upto_if 74 with (fail)
            have H := HC39.out
            clear HC39
            obtain ⟨c45b0, H⟩ | ⟨c45b0, H⟩ := Xit H
            ·(first | rw [c45b0] | (simp only [i64_w, i32_w]; rw [c45b0]) | skip)
             obtain rfl := Option.some.inj H
             go_wp2
             go_ret
             exact ⟨Xe, Xi⟩
            ·(first | rw [c45b0] | (simp only [i64_w, i32_w]; rw [c45b0]) | skip)
             obtain ⟨c46, H⟩ := Xif H
             have LMc46 := Aside0.mk c46
             clear c46
             obtain ⟨y130, hy130⟩ : ∃ y_ : List Int, y_ = (x3_3 ++ [rd ((rd_T64 l0_2 x4_1).f4) x6_3]) := ⟨_, rfl⟩
             replace H : (spec_l02Nodes.l1 k3 y130 x4_1 (wrap64 (x6_3 + 1)) a0_0 a0_1 l0_2 ((rd_T64 l0_2 x4_1).f0) ((rd_T64 l0_2 x4_1).f1) ((rd_T64 l0_2 x4_1).f2) ((rd_T64 l0_2 x4_1).f3) ((rd_T64 l0_2 x4_1).f4)) = some r := by first | (rw [hy130]; with_reducible exact H) | (have H2_ := (Option.bind_some _ _).symm.trans H; rw [hy130]; with_reducible exact H2_) | (have H2_ := (Option.bind_some _ _).symm.trans H; with_reducible exact H2_) | with_reducible exact H | (rw [hy130]; exact H) | exact H
             have Ny130 := Aside0.mk hy130
             clear hy130
             have H' := Aside0.mk H
             clear H
             have hnb47 := NB121_115.out
             have hnc47 := NB115_121.out
             obtain ⟨hcz48_0, hcz48_1, hcz48_2, hcz48_3, hcz48_4⟩ := Xc5 BK121
             obtain ⟨hfz48_0, hfz48_1, hfz48_2, hfz48_3, hfz48_4⟩ := Xf5 BK121
             have p129 : 0 ≤ (x6_3 : Int) := of_decide_eq_true Xa
             have q129 : x6_3 < (((rd_T64 l0_2 x4_1).f4).length : Int) := of_decide_eq_true Xa
             obtain ⟨ad129, e129, hx129_0⟩ := Kd.at_int HR120_4.out x6_3 p129 q129
             obtain rfl : ad124 = ad129 := (by injection e129)
             replace hx129_0 := Xm HB hx129_0
             replace p129 := eq_true p129
             replace q129 := eq_true q129
             go_wp2_with (first | ((with_reducible refine gate_builtin (b := .append) (xs := #[.tmp 75, .tmp 81]) rfl ?_); at_builtin; refine Kd.R_append (Kd.int .i64) (w0 := w) w.heap.size rfl (.tmp 75) (.tmp 81) 56 3 (.int .i64 0) 8 rfl Try.underlying56 info3 rfl (by decide) (by omega) (.slice Ao43 x3_3.length co43) x3_3 (rd ((rd_T64 l0_2 x4_1).f4) x6_3) [.int .i64 (rd ((rd_T64 l0_2 x4_1).f4) x6_3)] (fun _ => True) (fun _ => False) rfl rfl ?aP (fun _ hk => hk.elim) ?aF ?aO ?aB ?aS ?aL ?_; (case aP => exact rfl); (case aB => exact Xi); (case aF => exact (fun _ _ => trivial)); (case aO => exact (Xq HO_3)); (case aS => exact (below_size Xi)); (case aL => have := LMc46.out; omega); intro v131 w49 ho hb hg hat; rw [← Ny130.out] at ho; replace BK115 := Aside0.mk (blk_grown (g := gb115) (o := .cells #[.int .i64 a0_0, .int .i64 a0_1, .slice (some ad120) l0_2.length c0_2] 35 (0, 0)) (Xq' BK115) hg (Kd.R_ne HO_3.out BK115.out (by decide))); replace BK121 := Aside0.mk (blk_grown (g := gb121) (o := .cells #[.int .i64 ((rd_T64 l0_2 x4_1).f0), .int .i64 ((rd_T64 l0_2 x4_1).f1), .int .i64 ((rd_T64 l0_2 x4_1).f2), .string ((rd_T64 l0_2 x4_1).f3), .slice (some ad124) ((rd_T64 l0_2 x4_1).f4).length c120_4] 64 (0, 0)) (Xq' BK121) hg (Kd.R_ne HO_3.out BK121.out (by decide))); replace HB := Aside0.mk (hb); have HO132 := Aside0.mk (ho); clear HO_3; clear ho hb hg hat))
             go_roundg k3
             case measure => have := HK1.out; have := HJ6.out; have := HK3.out; omega
             case rel => exact ⟨(y130), (wrap64 (x6_3 + 1)), Xr, H', ⟨by have := HK1.out; have := HJ6.out; have := HK3.out; omega⟩, (Xp' HO132), (Xp BK115), (Xp BK121), ⟨Xi⟩⟩
         ·have H' := Aside0.mk H
          clear H
          have hnb50 := NB121_115.out
          have hnc50 := NB115_121.out
          obtain ⟨hcz51_0, hcz51_1, hcz51_2, hcz51_3, hcz51_4⟩ := Xc5 BK121
          obtain ⟨hfz51_0, hfz51_1, hfz51_2, hfz51_3, hfz51_4⟩ := Xf5 BK121
          go_wp2
          go_roundg k3
          case measure => have := HK1.out; have := HJ6.out; have := HK3.out; omega
          case rel => exact ⟨(x3_3), (wrap64 (x4_1 + 1)), Xr, H', ⟨by have := HK1.out; have := HJ6.out; have := HK3.out; omega⟩, (Xp' HO_3), (Xp BK115), ⟨Xi⟩⟩
   ·obtain ⟨c52, H⟩ | ⟨c52, H⟩ := Xiu H
    ·have c52b0 : ((x3_1.length : Int) == (wrap64 ((l0_2.length : Int) - 1))) = true := beq_iff_eq.mpr c52
     have c52b1 : ((x3_1.length : Int) != (wrap64 ((l0_2.length : Int) - 1))) = false := bne_eq_false_iff_eq.mpr c52
     clear c52
     obtain ⟨t119, A53, H⟩ := Xbi H
     (try dsimp only at H)
     obtain rfl := Option.some.inj H
     obtain ⟨hcz54_0, hcz54_1, hcz54_2⟩ := Xc3 BK115
     obtain ⟨hfz54_0, hfz54_1, hfz54_2⟩ := Xf3 BK115
     obtain ⟨Ao55, co55, eo55⟩ := Kd.R_slice HO_3.out
     subst eo55
     go_wp2_with (first | (go_at_call 113; (with_reducible refine (spec_l02At.calls k1 a0_0 a0_1 _ _ l0_2 a0_0 t119 _ ?side1 ?side2 A53.out).mono ?_); (case side1 => exact Xc HR0_2); (case side2 => exact HC0_2.out); rintro e w56 ⟨rfl, hb⟩; replace HO_3 := Aside0.mk (Kd.R_below (Xq HO_3) hb); replace BK115 := Xbb BK115 hb; replace HB := Aside0.mk (below_step Xi hb); clear hb))
     go_ret
     exact ⟨Xe, Xi⟩
    ·have c52b0 : ((x3_1.length : Int) == (wrap64 ((l0_2.length : Int) - 1))) = false := beq_eq_false_iff_ne.mpr c52
     have c52b1 : ((x3_1.length : Int) != (wrap64 ((l0_2.length : Int) - 1))) = true := bne_iff_ne.mpr c52
     obtain rfl := Option.some.inj H
     obtain ⟨hcz57_0, hcz57_1, hcz57_2⟩ := Xc3 BK115
     obtain ⟨hfz57_0, hfz57_1, hfz57_2⟩ := Xf3 BK115
     obtain ⟨Ao58, co58, eo58⟩ := Kd.R_slice HO_3.out
     subst eo58
     go_wp2
     go_ret
     exact ⟨Xe, Xi⟩

end Go.Proofs.Ytocelbmpnjnnbaa.XA
