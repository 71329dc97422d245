/- Words and contracts of this claim. Conditions: each theorem's own premises. -/
import Derived.Test.YtahhgjkgfbppeaaGreatZ1
import Derived.Test.YtahhgjkgfbppeaaGreatZ2
namespace Go.Proofs.YtahhgjkgfbppeaaGreat.XA
open Go.RowKit Go.Proofs.YtahhgjkgfbppeaaGreatW.PrintWords Go.Proofs.YtahhgjkgfbppeaaGreatW.PrintLast Go.Proofs.YtahhgjkgfbppeaaGreatW.PrintMore XW
attribute [local go_sem] max2_int min2_int max_two min_two max_three min_three max_four min_four   -- for this text's walks alone
set_option linter.unusedVariables false
set_option linter.unusedSimpArgs false
set_option maxHeartbeats 8000000
set_option maxRecDepth 100000
def spec_l08Blockers.l0 : Nat → Int → List Int → Int → Int → Int → List (S113) → List (S39) → List (S39) → Int → Int → Int → Option (List Int)
 | 0, _, _, _, _, _, _, _, _, _, _, _ => none
 | k + 1, x2, x8, x9, x343000, x343001, x343002, x344000, x344001, x346000, x346001, x346002 => if x9 < x2 then (if 0 ≤ x9 then (if x9 < (x344001.length : Int) then ((spec_l08Rival.f k x343000 x343001 x343002 x344000 x344001 x346000 x346001 x346002 ((rd_T39 x344001 x9).f0) ((rd_T39 x344001 x9).f1) ((rd_T39 x344001 x9).f2)).bind fun t350 => (if t350 = true then ((spec_l02Has.f k x8 ((rd_T39 x344001 x9).f0)).bind fun t352 => (if t352 = true then (spec_l08Blockers.l0 k x2 x8 (wrap64 (x9 + 1)) x343000 x343001 x343002 x344000 x344001 x346000 x346001 x346002) else ((spec_l08Rise.f k x8 ((rd_T39 x344001 x9).f0)).bind fun t354 => (spec_l08Blockers.l0 k x2 t354 (wrap64 (x9 + 1)) x343000 x343001 x343002 x344000 x344001 x346000 x346001 x346002)))) else (spec_l08Blockers.l0 k x2 x8 (wrap64 (x9 + 1)) x343000 x343001 x343002 x344000 x344001 x346000 x346001 x346002))) else (none)) else (none)) else (some x8)
def spec_l08Blockers.f (k : Nat) (a0_0 : Int) (a0_1 : Int) (l0_2 : List (S113)) (l1_0 : List (S39)) (l1_1 : List (S39)) (a2 : Int) : Option (List Int) := if 0 ≤ a2 then (if a2 < (l1_1.length : Int) then ((spec_l07Conflicts.f k a0_0 a0_1 l0_2 l1_0 ((rd_T39 l1_1 a2).f0) ((rd_T39 l1_1 a2).f1) ((rd_T39 l1_1 a2).f2)).bind fun t346 => (spec_l08Blockers.l0 k a2 t346 0 a0_0 a0_1 l0_2 l1_0 l1_1 ((rd_T39 l1_1 a2).f0) ((rd_T39 l1_1 a2).f1) ((rd_T39 l1_1 a2).f2))) else (none)) else (none)
def spec_l08Blockers.T6 : Bool × List (List Nat × List Nat) := (true, [([], []), ([], []), ([], []), ([], []), ([3], [3]), ([], []), ([4, 5], [4, 5]), ([6], [6]), ([0, 1, 2, 7], [0, 1, 2, 7]), ([8, 8], [8]), ([9], [9]), ([9], [9]), ([11, 9], [9, 11]), ([9], [9]), ([12, 13, 9], [9, 12, 13]), ([14, 9], [9, 14]), ([15, 9], [9, 15]), ([10, 16, 9, 9], [9, 10, 16]), ([17, 9], [9, 17]), ([9, 18], [9, 18])])
def spec_l08Blockers.B6 : List Nat := [0, 0, 0, 0, 8, 0, 56, 120, 255, 511, 1023, 1023, 3071, 1023, 15359, 31743, 64511, 131071, 262143, 524287]
theorem spec_l08Blockers.tab6 : rtab .any (opsOf Tryz.f56 6) = spec_l08Blockers.T6 := by kernel_rfl
theorem spec_l08Blockers.bits6 : waitsOk spec_l08Blockers.T6.2 spec_l08Blockers.B6 = true := by kernel_rfl
theorem spec_l08Blockers.calls (k : Nat) (a0_0 : Int) (a0_1 : Int) (A0_2 : Option Addr) (c0_2 : Nat) (l0_2 : List (S113)) (A1_0 : Option Addr) (c1_0 : Nat) (l1_0 : List (S39)) (A1_1 : Option Addr) (c1_1 : Nat) (l1_1 : List (S39)) (a2 : Int) (r : List Int) (w : World) (hr0_2 : Kd.C k113 w A0_2 l0_2.length l0_2) (hc0_2 : l0_2.length ≤ c0_2) (hr1_0 : Kd.C k39 w A1_0 l1_0.length l1_0) (hc1_0 : l1_0.length ≤ c1_0) (hr1_1 : Kd.C k39 w A1_1 l1_1.length l1_1) (hc1_1 : l1_1.length ≤ c1_1) (h : spec_l08Blockers.f k a0_0 a0_1 l0_2 l1_0 l1_1 a2 = some r) :
  Calls Tryz.prog 56 #[.agg #[.int .i64 a0_0, .int .i64 a0_1, .slice A0_2 l0_2.length c0_2], .agg #[.slice A1_0 l1_0.length c1_0, .slice A1_1 l1_1.length c1_1], .int .i64 a2] w fun e w' => ∃ v0_ : Value, e = .returned (v0_) ∧ Kd.R (Kd.int .i64) 3 w' w.heap.size (fun _ => True) v0_ r ∧ Below w.heap.size w w' := by
 have hu35 := Tryz.underlying35
 have hu53 := Tryz.underlying53
 have hu39 := Tryz.underlying39
 have HR0_2 := Aside0.mk hr0_2
 have HC0_2 := Aside0.mk hc0_2
 clear hr0_2 hc0_2
 have HR1_0 := Aside0.mk hr1_0
 have HC1_0 := Aside0.mk hc1_0
 clear hr1_0 hc1_0
 have HR1_1 := Aside0.mk hr1_1
 have HC1_1 := Aside0.mk hc1_1
 clear hr1_1 hc1_1
 have HB := Aside0.mk (Below.refl w.heap.size w)
 have H : (if 0 ≤ a2 then (if a2 < (l1_1.length : Int) then ((spec_l07Conflicts.f k a0_0 a0_1 l0_2 l1_0 ((rd_T39 l1_1 a2).f0) ((rd_T39 l1_1 a2).f1) ((rd_T39 l1_1 a2).f2)).bind fun t346 => (spec_l08Blockers.l0 k a2 t346 0 a0_0 a0_1 l0_2 l1_0 l1_1 ((rd_T39 l1_1 a2).f0) ((rd_T39 l1_1 a2).f1) ((rd_T39 l1_1 a2).f2))) else (none)) else (none)) = some r := h
 clear h
 obtain ⟨c4, H⟩ | ⟨c4, H⟩ := Xiu H
 ·have c4b0 : decide (0 ≤ a2) = true := decide_eq_true c4
  clear c4
  obtain ⟨c5b0, H⟩ := Xid H
  obtain ⟨t346, A6, H⟩ := Xbi H
  try dsimp only at H
  have H' := Aside0.mk H
  clear H
  go_enter Tryz.func56, Tryz.ntmps56
  go_wp2_with (first | ((with_reducible refine gate_dst (N := 3) rfl ?_); refine Xbox 3 #[.int .i64 a0_0, .int .i64 a0_1, .slice A0_2 l0_2.length c0_2] 35 ?_; intro gb342 hg w7 hbox hb; have BK342 := Aside0.mk (hbox); have GE342 := Xge hg Xi; replace HB := Aside0.mk (below_step Xi hb); clear hb hbox hg) | ((with_reducible refine gate_dst (N := 4) rfl ?_); refine Xbox 4 #[.slice A1_0 l1_0.length c1_0, .slice A1_1 l1_1.length c1_1] 53 ?_; intro gb343 hg w8 hbox hb; have BK343 := Aside0.mk (hbox); have GE343 := Xge hg Xi; replace HB := Aside0.mk (below_step Xi hb); have NB342_343 := Xnb hg BK342; have NB343_342 := Xns NB342_343; replace BK342 := Xbb BK342 hb; clear hb hbox hg; have hnb9 := NB343_342.out; have hnc9 := NB342_343.out; obtain ⟨hcz10_0, hcz10_1⟩ := Xc2 BK343; obtain ⟨hfz10_0, hfz10_1⟩ := Xf2 BK343; have p344 : 0 ≤ (a2 : Int) := of_decide_eq_true Xa; have q344 : a2 < (l1_1.length : Int) := of_decide_eq_true Xa; obtain ⟨ad344, e344, hx344_0, hx344_1, hx344_2⟩ := at_T39 HR1_1.out a2 p344 q344; cases e344; replace hx344_0 := Xm HB hx344_0; replace hx344_1 := Xm HB hx344_1; replace hx344_2 := Xm HB hx344_2; replace p344 := eq_true p344; replace q344 := eq_true q344) | ((with_reducible refine gate_dst (N := 7) rfl ?_); refine Xbox 7 #[.int .i64 0, .int .i64 0, .int .i64 0] 39 ?_; intro gb345 hg w11 hbox hb; have BK345 := Aside0.mk (hbox); have GE345 := Xge hg Xi; replace HB := Aside0.mk (below_step Xi hb); have NB342_345 := Xnb hg BK342; have NB345_342 := Xns NB342_345; replace BK342 := Xbb BK342 hb; have NB343_345 := Xnb hg BK343; have NB345_343 := Xns NB343_345; replace BK343 := Xbb BK343 hb; clear hb hbox hg; have hnb12 := NB345_342.out; have hnc12 := NB342_345.out; have hnb13 := NB345_343.out; have hnc13 := NB343_345.out; obtain ⟨hcz14_0, hcz14_1, hcz14_2⟩ := Xc3 BK345; obtain ⟨hfz14_0, hfz14_1, hfz14_2⟩ := Xf3 BK345) | ((with_reducible refine gate_store (t := 39) (p := 7) rfl ?_); refine store_event (t := 39) (p := 7) (v := ?vo_w15) (w1 := (((w11.setCell ⟨gb345, 0, none⟩ (.int .i64 ((rd_T39 l1_1 a2).f0))).setCell ⟨gb345, 1, none⟩ (.int .i64 ((rd_T39 l1_1 a2).f1))).setCell ⟨gb345, 2, none⟩ (.int .i64 ((rd_T39 l1_1 a2).f2)))) ?hg ?ho ?hn ?hr ?_; (case ho => rfl); (case hg => rfl); (case hn => rfl); (case hr => first | (go_simp; done) | (go_simp; rfl)); intro w15 hw; have n0_ : Aside0 (w15.heap[gb342]? = some (.cells #[.int .i64 a0_0, .int .i64 a0_1, .slice A0_2 l0_2.length c0_2] 35 (0, 0))) := ⟨(by rw [hw]; exact (by (with_reducible repeat (first | refine blk_drewN ?_ _ | refine blk_drew ?_ | refine blk_alloc ?_ _)); refine blk_far ?_ NB342_345.out _; (with_reducible repeat (first | refine blk_drewN ?_ _ | refine blk_drew ?_ | refine blk_alloc ?_ _)); refine blk_far ?_ NB342_345.out _; (with_reducible repeat (first | refine blk_drewN ?_ _ | refine blk_drew ?_ | refine blk_alloc ?_ _)); refine blk_far ?_ NB342_345.out _; (with_reducible repeat (first | refine blk_drewN ?_ _ | refine blk_drew ?_ | refine blk_alloc ?_ _)); exact BK342.out))⟩; have n1_ : Aside0 (w15.heap[gb343]? = some (.cells #[.slice A1_0 l1_0.length c1_0, .slice (some ad344) l1_1.length c1_1] 53 (0, 0))) := ⟨(by rw [hw]; exact (by (with_reducible repeat (first | refine blk_drewN ?_ _ | refine blk_drew ?_ | refine blk_alloc ?_ _)); refine blk_far ?_ NB343_345.out _; (with_reducible repeat (first | refine blk_drewN ?_ _ | refine blk_drew ?_ | refine blk_alloc ?_ _)); refine blk_far ?_ NB343_345.out _; (with_reducible repeat (first | refine blk_drewN ?_ _ | refine blk_drew ?_ | refine blk_alloc ?_ _)); refine blk_far ?_ NB343_345.out _; (with_reducible repeat (first | refine blk_drewN ?_ _ | refine blk_drew ?_ | refine blk_alloc ?_ _)); exact BK343.out))⟩; have n2_ : Aside0 (w15.heap[gb345]? = some (.cells #[.int .i64 ((rd_T39 l1_1 a2).f0), .int .i64 ((rd_T39 l1_1 a2).f1), .int .i64 ((rd_T39 l1_1 a2).f2)] 39 (0, 0))) := ⟨(by rw [hw]; exact (by (with_reducible repeat (first | refine blk_drewN ?_ _ | refine blk_drew ?_ | refine blk_alloc ?_ _)); refine blk_put (cs := #[.int .i64 ((rd_T39 l1_1 a2).f0), .int .i64 ((rd_T39 l1_1 a2).f1), .int .i64 0]) ?_ 2 _ rfl; (with_reducible repeat (first | refine blk_drewN ?_ _ | refine blk_drew ?_ | refine blk_alloc ?_ _)); refine blk_put (cs := #[.int .i64 ((rd_T39 l1_1 a2).f0), .int .i64 0, .int .i64 0]) ?_ 1 _ rfl; (with_reducible repeat (first | refine blk_drewN ?_ _ | refine blk_drew ?_ | refine blk_alloc ?_ _)); refine blk_put (cs := #[.int .i64 0, .int .i64 0, .int .i64 0]) ?_ 0 _ rfl; (with_reducible repeat (first | refine blk_drewN ?_ _ | refine blk_drew ?_ | refine blk_alloc ?_ _)); exact BK345.out))⟩; have n3_ : Aside0 (Below w.heap.size w w15) := ⟨(by rw [hw]; exact Xi)⟩; clear hw; clear BK342; clear BK343; clear BK345; clear HB; have BK342 := n0_; have BK343 := n1_; have BK345 := n2_; have HB := n3_; clear n0_ n1_ n2_ n3_; obtain ⟨hcz16_0, hcz16_1, hcz16_2⟩ := Xc3 BK342; obtain ⟨hfz16_0, hfz16_1, hfz16_2⟩ := Xf3 BK342; obtain ⟨hcz17_0, hcz17_1⟩ := Xc2 BK343; obtain ⟨hfz17_0, hfz17_1⟩ := Xf2 BK343; obtain ⟨hcz18_0, hcz18_1, hcz18_2⟩ := Xc3 BK345; obtain ⟨hfz18_0, hfz18_1, hfz18_2⟩ := Xf3 BK345) | ((with_reducible refine gate_callee (f := 47) rfl ?_); refine Xgo 19 Tryz.func47 #[.agg #[.int .i64 a0_0, .int .i64 a0_1, .slice A0_2 l0_2.length c0_2], .slice A1_0 l1_0.length c1_0, .agg #[.int .i64 ((rd_T39 l1_1 a2).f0), .int .i64 ((rd_T39 l1_1 a2).f1), .int .i64 ((rd_T39 l1_1 a2).f2)]] ?_; (with_reducible refine (spec_l07Conflicts.calls k a0_0 a0_1 _ _ l0_2 _ _ l1_0 ((rd_T39 l1_1 a2).f0) ((rd_T39 l1_1 a2).f1) ((rd_T39 l1_1 a2).f2) t346 _ ?side1 ?side2 ?side3 ?side4 A6.out).mono ?_); (case side1 => exact Xc HR0_2); (case side2 => exact HC0_2.out); (case side3 => exact Xc HR1_0); (case side4 => exact HC1_0.out); rintro e w19 ⟨v347, rfl, ho0, hb⟩; refine ⟨_, rfl, ?_⟩; have HO348 := Aside0.mk (Kd.R_lower ho0 (below_size Xi)); replace BK342 := Xbb BK342 hb; replace BK343 := Xbb BK343 hb; replace BK345 := Xbb BK345 hb; replace HB := Aside0.mk (below_step Xi hb); clear hb; (try clear ho0)))
  go_loopg [8, 9] k (fun kq v8 v9 w' => ∃ (x8_1 : List Int) (x9_1 : Int), v9 = .int .i64 x9_1 ∧ Aside0 (spec_l08Blockers.l0 kq a2 x8_1 x9_1 a0_0 a0_1 l0_2 l1_0 l1_1 ((rd_T39 l1_1 a2).f0) ((rd_T39 l1_1 a2).f1) ((rd_T39 l1_1 a2).f2) = some r) ∧ Aside0 (kq ≤ k) ∧ Aside0 (Kd.R (Kd.int .i64) 3 w' w.heap.size (fun _ => True) v8 x8_1) ∧ Aside0 (w'.heap[gb342]? = some (.cells #[.int .i64 a0_0, .int .i64 a0_1, (.slice A0_2 l0_2.length c0_2)] 35 (0, 0))) ∧ Aside0 (w'.heap[gb343]? = some (.cells #[(.slice A1_0 l1_0.length c1_0), (.slice (some ad344) l1_1.length c1_1)] 53 (0, 0))) ∧ Aside0 (w'.heap[gb345]? = some (.cells #[.int .i64 ((rd_T39 l1_1 a2).f0), .int .i64 ((rd_T39 l1_1 a2).f1), .int .i64 ((rd_T39 l1_1 a2).f2)] 39 (0, 0))) ∧ Aside0 (Below w.heap.size w w'))
  case atStart => exact ⟨(t346), (0), Xr, H', Xkr, (Xp' HO348), BK342, BK343, BK345, ⟨Xi⟩⟩
  clear H'
  (try clear c4); (try clear c4b0); (try clear c5); (try clear c5b0); (try clear hcz10_0); (try clear hcz10_1); (try clear hcz14_0); (try clear hcz14_1); (try clear hcz14_2); (try clear hcz16_0); (try clear hcz16_1); (try clear hcz16_2); (try clear hcz17_0); (try clear hcz17_1); (try clear hcz18_0); (try clear hcz18_1); (try clear hcz18_2); (try clear hfz10_0); (try clear hfz10_1); (try clear hfz14_0); (try clear hfz14_1); (try clear hfz14_2); (try clear hfz16_0); (try clear hfz16_1); (try clear hfz16_2); (try clear hfz17_0); (try clear hfz17_1); (try clear hfz18_0); (try clear hfz18_1); (try clear hfz18_2); (try clear hx344_0); (try clear hx344_1); (try clear hx344_2); (try clear p344); (try clear q344)
  obtain ⟨x8_1, x9_1, rfl, HA, HK1, HO_8, BK342, BK343, BK345, HB⟩ := hrel
  cases gk with | zero => cases HA.out | succ k1 => ?_
  have H := HA.out
  clear HA
  simp only [spec_l08Blockers.l0] at H
  obtain ⟨c20b0, H⟩ | ⟨c20b0, H⟩ := Xit H
  ·obtain ⟨c21b0, H⟩ := Xid H
   obtain ⟨c22b0, H⟩ := Xid H
   obtain ⟨t350, A23, H⟩ := Xbi H
   try dsimp only at H
   by_cases c24 : t350 = true
   ·subst c24
    try rw [if_pos rfl] at H
    obtain ⟨t352, A25, H⟩ := Xbi H
    try dsimp only at H
    have HC26 := Aside0.mk H
    clear H
    try go_wp2_with (fail)
    replace HO_8 := Aside0.mk (Kd.R_drew HO_8.out)
    replace BK342 := Aside0.mk (blk_drew BK342.out)
    replace BK343 := Aside0.mk (blk_drew BK343.out)
    replace BK345 := Aside0.mk (blk_drew BK345.out)
    replace HB := Aside0.mk (below_drew1 HB.out)
    have p349 : 0 ≤ (x9_1 : Int) := of_decide_eq_true Xa
    have q349 : x9_1 < (l1_1.length : Int) := of_decide_eq_true Xa
    obtain ⟨ad349, e349, hx349_0, hx349_1, hx349_2⟩ := at_T39 HR1_1.out x9_1 p349 q349
    have hw349_2 := hx349_2
    have hw349_1 := hx349_1
    have hw349_0 := hx349_0
    obtain rfl : ad344 = ad349 := (by injection e349)
    replace hx349_0 := Xm HB hx349_0
    replace hx349_1 := Xm HB hx349_1
    replace hx349_2 := Xm HB hx349_2
    replace p349 := eq_true p349
    replace q349 := eq_true q349
    have p351 : 0 ≤ (x9_1 : Int) := of_decide_eq_true Xa
    have q351 : x9_1 < (l1_1.length : Int) := of_decide_eq_true Xa
    obtain ⟨ad351, e351, hx351_0, hx351_1, hx351_2⟩ := at_T39 HR1_1.out x9_1 p351 q351
    have hw351_2 := hx351_2
    have hw351_1 := hx351_1
    have hw351_0 := hx351_0
    obtain rfl : ad344 = ad351 := (by injection e351)
    replace hx351_0 := Xm HB hx351_0
    replace hx351_1 := Xm HB hx351_1
    replace hx351_2 := Xm HB hx351_2
    replace p351 := eq_true p351
    replace q351 := eq_true q351
    refine start_ (n := 20) (S := fun w' => w'.cell? ⟨gb342, 0, none⟩ = some (.int .i64 a0_0) ∧ w'.cell? ⟨gb342, 1, none⟩ = some (.int .i64 a0_1) ∧ w'.cell? ⟨gb342, 2, none⟩ = some (.slice A0_2 l0_2.length c0_2) ∧ w'.cell? ⟨gb343, 0, none⟩ = some (.slice A1_0 l1_0.length c1_0) ∧ w'.cell? ⟨gb343, 1, none⟩ = some (.slice (some ad344) l1_1.length c1_1) ∧ w'.cell? ⟨gb345, 0, none⟩ = some (.int .i64 ((rd_T39 l1_1 a2).f0)) ∧ w'.cell? ⟨gb345, 1, none⟩ = some (.int .i64 ((rd_T39 l1_1 a2).f1)) ∧ w'.cell? ⟨gb345, 2, none⟩ = some (.int .i64 ((rd_T39 l1_1 a2).f2)) ∧ w'.cell? (ad344.add ((x9_1).toNat * 3)) = some (.int .i64 ((rd_T39 l1_1 x9_1).f0)) ∧ w'.cell? ⟨(ad344.add ((x9_1).toNat * 3)).block, (ad344.add ((x9_1).toNat * 3)).off + 1, none⟩ = some (.int .i64 ((rd_T39 l1_1 x9_1).f1)) ∧ w'.cell? ⟨(ad344.add ((x9_1).toNat * 3)).block, (ad344.add ((x9_1).toNat * 3)).off + 2, none⟩ = some (.int .i64 ((rd_T39 l1_1 x9_1).f2)) ∧ w'.cell? (ad344.add ((x9_1).toNat * 3)) = some (.int .i64 ((rd_T39 l1_1 x9_1).f0)) ∧ w'.cell? ⟨(ad344.add ((x9_1).toNat * 3)).block, (ad344.add ((x9_1).toNat * 3)).off + 1, none⟩ = some (.int .i64 ((rd_T39 l1_1 x9_1).f1)) ∧ w'.cell? ⟨(ad344.add ((x9_1).toNat * 3)).block, (ad344.add ((x9_1).toNat * 3)).off + 2, none⟩ = some (.int .i64 ((rd_T39 l1_1 x9_1).f2))) (ds := []) #[false, false, false, false, false, false, false, false, false, false, false, false, false, false, false, false, false, false, false, false] (by kernel_rfl) rfl rfl ⟨(blk_cell BK342.out 0).trans rfl, (blk_cell BK342.out 1).trans rfl, (blk_cell BK342.out 2).trans rfl, (blk_cell BK343.out 0).trans rfl, (blk_cell BK343.out 1).trans rfl, (blk_cell BK345.out 0).trans rfl, (blk_cell BK345.out 1).trans rfl, (blk_cell BK345.out 2).trans rfl, Xn hw349_0, Xn hw349_1, Xn hw349_2, Xn hw351_0, Xn hw351_1, Xn hw351_2⟩ (fun hHeld => ?_); refine with_tabW spec_l08Blockers.tab6 spec_l08Blockers.bits6 (fun HT_ HW_ => ?_)
    generalize wr.drew = w27 at HO_8 BK342 BK343 BK345 HB hx349_0 hx349_1 hx349_2 hx351_0 hx351_1 hx351_2 hHeld ⊢
    refine Xpu 3 28 (XW.bs 20 8) HT_.out ?_
    refine Xpu 5 30 (XW.bs 20 40) HT_.out ?_
    refine Xta 0 25 (XW.bs 20 41) HT_.out HW_.out hHeld ?_
    refine Xta 1 26 (XW.bs 20 43) HT_.out HW_.out hHeld ?_
    refine Xta 2 27 (XW.bs 20 47) HT_.out HW_.out hHeld ?_
    refine Xta 4 29 (XW.bs 20 63) HT_.out HW_.out hHeld ?_
    refine Xpu 6 31 (XW.bs 20 127) HT_.out ?_
    refine Xta 7 32 (XW.bs 20 255) HT_.out HW_.out hHeld ?_
    refine one_ (i := 8) (N := some 33) (XW.bs 20 511) rfl rfl (one_of HT_.out (by kernel_rfl)) (by decide) (fun K hK => ?_)
    refine goes_ Tryz.func103 (by kernel_rfl) rfl #[.agg #[.int .i64 a0_0, .int .i64 a0_1, .slice A0_2 l0_2.length c0_2], .agg #[.slice A1_0 l1_0.length c1_0, .slice (some ad344) l1_1.length c1_1], .agg #[.int .i64 ((rd_T39 l1_1 a2).f0), .int .i64 ((rd_T39 l1_1 a2).f1), .int .i64 ((rd_T39 l1_1 a2).f2)], .agg #[.int .i64 ((rd_T39 l1_1 x9_1).f0), .int .i64 ((rd_T39 l1_1 x9_1).f1), .int .i64 ((rd_T39 l1_1 x9_1).f2)]] (by rfl) rfl rfl (by (try simp only [List.map_toArray, List.map_cons, List.map_nil]); first | done | rfl | (simp only [List.length_drop, List.length_take]; rfl)) ?_
    with_reducible refine (spec_l08Rival.calls k1 a0_0 a0_1 _ _ l0_2 _ _ l1_0 _ _ l1_1 ((rd_T39 l1_1 a2).f0) ((rd_T39 l1_1 a2).f1) ((rd_T39 l1_1 a2).f2) ((rd_T39 l1_1 x9_1).f0) ((rd_T39 l1_1 x9_1).f1) ((rd_T39 l1_1 x9_1).f2) true _ ?side1 ?side2 ?side3 ?side4 ?side5 ?side6 A23.out).mono ?_
    (case side1 => exact Xc HR0_2)
    (case side2 => exact HC0_2.out)
    (case side3 => exact Xc HR1_0)
    (case side4 => exact HC1_0.out)
    (case side5 => exact Xc HR1_1)
    (case side6 => exact HC1_1.out)
    rintro e w28 ⟨rfl, hb⟩
    refine ⟨_, rfl, ?_⟩
    replace HO_8 := Aside0.mk (Kd.R_below (Xq HO_8) hb)
    replace BK342 := Xbb BK342 hb
    replace BK343 := Xbb BK343 hb
    replace BK345 := Xbb BK345 hb
    replace HB := Aside0.mk (below_step Xi hb)
    try clear hb
    try clear hb2
    try clear hk
    try clear hi
    obtain ⟨Ao29, co29, eo29⟩ := Kd.R_slice HO_8.out
    (first | subst eo29 | (injection eo29 with f1_ f2_ f3_; have f4_ := f1_.symm; have f5_ := f3_.symm; clear f1_ f2_ f3_; subst f4_; subst f5_))
    refine hK.out _ _ ⟨(blk_cell BK342.out 0).trans rfl, (blk_cell BK342.out 1).trans rfl, (blk_cell BK342.out 2).trans rfl, (blk_cell BK343.out 0).trans rfl, (blk_cell BK343.out 1).trans rfl, (blk_cell BK345.out 0).trans rfl, (blk_cell BK345.out 1).trans rfl, (blk_cell BK345.out 2).trans rfl, Xn hw349_0, Xn hw349_1, Xn hw349_2, Xn hw351_0, Xn hw351_1, Xn hw351_2⟩ (fun hHeld => ?_)
    clear hK K
    refine Xno ?_
    refine Xpu 9 34 (XW.bs 20 1023) HT_.out ?_
    refine Xpu 10 35 (XW.bs 20 2047) HT_.out ?_
    refine Xpu 11 36 (XW.bs 20 4095) HT_.out ?_
    refine Xpu 13 38 (XW.bs 20 12287) HT_.out ?_
    refine Xta 12 37 (XW.bs 20 16383) HT_.out HW_.out hHeld ?_
    refine Xpu 14 39 (XW.bs 20 32767) HT_.out ?_
    refine Xpu 15 40 (XW.bs 20 65535) HT_.out ?_
    refine Xta 16 41 (XW.bs 20 131071) HT_.out HW_.out hHeld ?_
    refine one_ (i := 17) (N := some 42) (XW.bs 20 262143) rfl rfl (one_of HT_.out (by kernel_rfl)) (by decide) (fun K hK => ?_)
    refine goes_ Tryz.func104 (by kernel_rfl) rfl #[.slice Ao29 x8_1.length co29, .int .i64 ((rd_T39 l1_1 x9_1).f0)] (by rfl) rfl rfl (by (try simp only [List.map_toArray, List.map_cons, List.map_nil]); first | done | rfl | (simp only [List.length_drop, List.length_take]; rfl)) ?_
    with_reducible refine (spec_l02Has.calls k1 _ _ x8_1 ((rd_T39 l1_1 x9_1).f0) t352 _ ?side1 ?side2 A25.out).mono ?_
    (case side1 => repeat (first | exact (Kd.R_reads' HO_8.out).2.2 | (with_reducible first | refine Kd.C_alloc ?_ _ | refine Kd.C_drewN ?_ _ | refine Kd.C_drew ?_)))
    (case side2 => exact (Kd.R_reads' HO_8.out).2.1)
    rintro e w' ⟨rfl, ⟨nd, rfl⟩⟩
    refine ⟨_, rfl, ?_⟩
    refine hK.out _ _ ⟨(blk_cell BK342.out 0).trans rfl, (blk_cell BK342.out 1).trans rfl, (blk_cell BK342.out 2).trans rfl, (blk_cell BK343.out 0).trans rfl, (blk_cell BK343.out 1).trans rfl, (blk_cell BK345.out 0).trans rfl, (blk_cell BK345.out 1).trans rfl, (blk_cell BK345.out 2).trans rfl, Xn hw349_0, Xn hw349_1, Xn hw349_2, Xn hw351_0, Xn hw351_1, Xn hw351_2⟩ (fun hHeld => ?_)
    clear hK K
    refine Xno ?_
    refine Xpu 18 43 (XW.bs 20 524287) HT_.out ?_
    refine Xpu 19 44 (XW.bs 20 1048575) HT_.out ?_
    refine done_ (done_of HT_.out (by kernel_rfl)) ?_
    go_upto_if 44 with (fail)
    (try (rw [drewN_self w28]; generalize hq_ : World.drewN w28 _ = w28; have n0_ : Aside0 (Kd.R (Kd.int .i64) 3 w28 w.heap.size (fun _ => True) (.slice Ao29 x8_1.length co29) x8_1) := ⟨by rw [← hq_]; exact (Xq HO_8)⟩; have n1_ : Aside0 (w28.heap[gb342]? = some (.cells #[.int .i64 a0_0, .int .i64 a0_1, .slice A0_2 l0_2.length c0_2] 35 (0, 0))) := ⟨by rw [← hq_]; exact BK342.out⟩; have n2_ : Aside0 (w28.heap[gb343]? = some (.cells #[.slice A1_0 l1_0.length c1_0, .slice (some ad344) l1_1.length c1_1] 53 (0, 0))) := ⟨by rw [← hq_]; exact BK343.out⟩; have n3_ : Aside0 (w28.heap[gb345]? = some (.cells #[.int .i64 ((rd_T39 l1_1 a2).f0), .int .i64 ((rd_T39 l1_1 a2).f1), .int .i64 ((rd_T39 l1_1 a2).f2)] 39 (0, 0))) := ⟨by rw [← hq_]; exact BK345.out⟩; have n4_ : Aside0 (Below w.heap.size w w28) := ⟨by rw [← hq_]; exact Xi⟩; clear HO_8 BK342 BK343 BK345 HB hq_; have HO_8 := n0_; have BK342 := n1_; have BK343 := n2_; have BK345 := n3_; have HB := n4_; clear n0_ n1_ n2_ n3_ n4_))
    have H := HC26.out
    clear HC26
    by_cases c30 : t352 = true
    ·subst c30
     try rw [if_pos rfl] at H
     have H' := Aside0.mk H
     clear H
     go_wp2
     go_roundg k1
     case measure => have := HK1.out; omega
     case rel => exact ⟨(x8_1), (wrap64 (x9_1 + 1)), Xr, H', Xk1, (Xp' HO_8), BK342, BK343, BK345, ⟨Xi⟩⟩
    replace c30 := Bool.eq_false_iff.mpr c30
    subst c30
    try rw [if_neg (show ¬ (false = true) by decide)] at H
    obtain ⟨t354, A31, H⟩ := Xbi H
    try dsimp only at H
    have H' := Aside0.mk H
    clear H
    have hnb32 := NB343_342.out
    have hnc32 := NB342_343.out
    have hnb33 := NB343_345.out
    have hnc33 := NB345_343.out
    obtain ⟨hcz34_0, hcz34_1⟩ := Xc2 BK343
    obtain ⟨hfz34_0, hfz34_1⟩ := Xf2 BK343
    obtain ⟨ad353, e353, p353, q353, hx353_0, hx353_1, hx353_2⟩ := at_B39 HR1_1 x9_1 Xa Xa HB
    obtain rfl : ad344 = ad353 := (by injection e353)
    go_wp2_with (first | ((with_reducible refine gate_callee (f := 105) rfl ?_); refine Xgo 52 Tryz.func105 #[.slice Ao29 x8_1.length co29, .int .i64 ((rd_T39 l1_1 x9_1).f0)] ?_; (with_reducible refine (spec_l08Rise.calls k1 _ _ x8_1 ((rd_T39 l1_1 x9_1).f0) t354 _ ?side1 ?side2 A31.out).mono ?_); (case side1 => repeat (first | exact (Kd.R_reads' HO_8.out).2.2 | (with_reducible first | refine Kd.C_alloc ?_ _ | refine Kd.C_drewN ?_ _ | refine Kd.C_drew ?_))); (case side2 => exact (Kd.R_reads' HO_8.out).2.1); rintro e w35 ⟨v355, rfl, ho0, hb⟩; refine ⟨_, rfl, ?_⟩; have HO356 := Aside0.mk (Kd.R_lower (Kd.R_new' ho0 (Kd.R_lt (Xq HO_8))) (below_size Xi)); replace HO_8 := Aside0.mk (Kd.R_elder' (Xq HO_8) (Kd.R_base ho0) hb); replace BK342 := Xbb BK342 hb; replace BK343 := Xbb BK343 hb; replace BK345 := Xbb BK345 hb; replace HB := Aside0.mk (below_step Xi hb); clear hb; (try clear ho0)))
    go_roundg k1
    case measure => have := HK1.out; omega
    case rel => exact ⟨(t354), (wrap64 (x9_1 + 1)), Xr, H', Xk1, ⟨by (with_reducible repeat (first | apply Kd.R_alloc | apply Kd.R_drewN | apply Kd.R_drew)); exact Kd.R_mono HO356.out (fun _ hk => trivial)⟩, BK342, BK343, BK345, ⟨Xi⟩⟩
   replace c24 := Bool.eq_false_iff.mpr c24
   subst c24
   try rw [if_neg (show ¬ (false = true) by decide)] at H
   have H' := Aside0.mk H
   clear H
   try go_wp2_with (fail)
   replace HO_8 := Aside0.mk (Kd.R_drew HO_8.out)
   replace BK342 := Aside0.mk (blk_drew BK342.out)
   replace BK343 := Aside0.mk (blk_drew BK343.out)
   replace BK345 := Aside0.mk (blk_drew BK345.out)
   replace HB := Aside0.mk (below_drew1 HB.out)
   have p349 : 0 ≤ (x9_1 : Int) := of_decide_eq_true Xa
   have q349 : x9_1 < (l1_1.length : Int) := of_decide_eq_true Xa
   obtain ⟨ad349, e349, hx349_0, hx349_1, hx349_2⟩ := at_T39 HR1_1.out x9_1 p349 q349
   have hw349_2 := hx349_2
   have hw349_1 := hx349_1
   have hw349_0 := hx349_0
   obtain rfl : ad344 = ad349 := (by injection e349)
   replace hx349_0 := Xm HB hx349_0
   replace hx349_1 := Xm HB hx349_1
   replace hx349_2 := Xm HB hx349_2
   replace p349 := eq_true p349
   replace q349 := eq_true q349
   refine start_ (n := 20) (S := fun w' => w'.cell? ⟨gb342, 0, none⟩ = some (.int .i64 a0_0) ∧ w'.cell? ⟨gb342, 1, none⟩ = some (.int .i64 a0_1) ∧ w'.cell? ⟨gb342, 2, none⟩ = some (.slice A0_2 l0_2.length c0_2) ∧ w'.cell? ⟨gb343, 0, none⟩ = some (.slice A1_0 l1_0.length c1_0) ∧ w'.cell? ⟨gb343, 1, none⟩ = some (.slice (some ad344) l1_1.length c1_1) ∧ w'.cell? ⟨gb345, 0, none⟩ = some (.int .i64 ((rd_T39 l1_1 a2).f0)) ∧ w'.cell? ⟨gb345, 1, none⟩ = some (.int .i64 ((rd_T39 l1_1 a2).f1)) ∧ w'.cell? ⟨gb345, 2, none⟩ = some (.int .i64 ((rd_T39 l1_1 a2).f2)) ∧ w'.cell? (ad344.add ((x9_1).toNat * 3)) = some (.int .i64 ((rd_T39 l1_1 x9_1).f0)) ∧ w'.cell? ⟨(ad344.add ((x9_1).toNat * 3)).block, (ad344.add ((x9_1).toNat * 3)).off + 1, none⟩ = some (.int .i64 ((rd_T39 l1_1 x9_1).f1)) ∧ w'.cell? ⟨(ad344.add ((x9_1).toNat * 3)).block, (ad344.add ((x9_1).toNat * 3)).off + 2, none⟩ = some (.int .i64 ((rd_T39 l1_1 x9_1).f2))) (ds := []) #[false, false, false, false, false, false, false, false, false, false, false, false, false, false, false, false, false, false, false, false] (by kernel_rfl) rfl rfl ⟨(blk_cell BK342.out 0).trans rfl, (blk_cell BK342.out 1).trans rfl, (blk_cell BK342.out 2).trans rfl, (blk_cell BK343.out 0).trans rfl, (blk_cell BK343.out 1).trans rfl, (blk_cell BK345.out 0).trans rfl, (blk_cell BK345.out 1).trans rfl, (blk_cell BK345.out 2).trans rfl, Xn hw349_0, Xn hw349_1, Xn hw349_2⟩ (fun hHeld => ?_); refine with_tabW spec_l08Blockers.tab6 spec_l08Blockers.bits6 (fun HT_ HW_ => ?_)
   generalize wr.drew = w36 at HO_8 BK342 BK343 BK345 HB hx349_0 hx349_1 hx349_2 hHeld ⊢
   refine Xpu 3 28 (XW.bs 20 8) HT_.out ?_
   refine Xpu 5 30 (XW.bs 20 40) HT_.out ?_
   refine Xta 0 25 (XW.bs 20 41) HT_.out HW_.out hHeld ?_
   refine Xta 1 26 (XW.bs 20 43) HT_.out HW_.out hHeld ?_
   refine Xta 2 27 (XW.bs 20 47) HT_.out HW_.out hHeld ?_
   refine Xta 4 29 (XW.bs 20 63) HT_.out HW_.out hHeld ?_
   refine Xpu 6 31 (XW.bs 20 127) HT_.out ?_
   refine Xta 7 32 (XW.bs 20 255) HT_.out HW_.out hHeld ?_
   refine one_ (i := 8) (N := some 33) (XW.bs 20 511) rfl rfl (one_of HT_.out (by kernel_rfl)) (by decide) (fun K hK => ?_)
   refine goes_ Tryz.func103 (by kernel_rfl) rfl #[.agg #[.int .i64 a0_0, .int .i64 a0_1, .slice A0_2 l0_2.length c0_2], .agg #[.slice A1_0 l1_0.length c1_0, .slice (some ad344) l1_1.length c1_1], .agg #[.int .i64 ((rd_T39 l1_1 a2).f0), .int .i64 ((rd_T39 l1_1 a2).f1), .int .i64 ((rd_T39 l1_1 a2).f2)], .agg #[.int .i64 ((rd_T39 l1_1 x9_1).f0), .int .i64 ((rd_T39 l1_1 x9_1).f1), .int .i64 ((rd_T39 l1_1 x9_1).f2)]] (by rfl) rfl rfl (by (try simp only [List.map_toArray, List.map_cons, List.map_nil]); first | done | rfl | (simp only [List.length_drop, List.length_take]; rfl)) ?_
   with_reducible refine (spec_l08Rival.calls k1 a0_0 a0_1 _ _ l0_2 _ _ l1_0 _ _ l1_1 ((rd_T39 l1_1 a2).f0) ((rd_T39 l1_1 a2).f1) ((rd_T39 l1_1 a2).f2) ((rd_T39 l1_1 x9_1).f0) ((rd_T39 l1_1 x9_1).f1) ((rd_T39 l1_1 x9_1).f2) false _ ?side1 ?side2 ?side3 ?side4 ?side5 ?side6 A23.out).mono ?_
   (case side1 => exact Xc HR0_2)
   (case side2 => exact HC0_2.out)
   (case side3 => exact Xc HR1_0)
   (case side4 => exact HC1_0.out)
   (case side5 => exact Xc HR1_1)
   (case side6 => exact HC1_1.out)
   rintro e w37 ⟨rfl, hb⟩
   refine ⟨_, rfl, ?_⟩
   replace HO_8 := Aside0.mk (Kd.R_below (Xq HO_8) hb)
   replace BK342 := Xbb BK342 hb
   replace BK343 := Xbb BK343 hb
   replace BK345 := Xbb BK345 hb
   replace HB := Aside0.mk (below_step Xi hb)
   try clear hb
   try clear hb2
   try clear hk
   try clear hi
   refine hK.out _ _ ⟨(blk_cell BK342.out 0).trans rfl, (blk_cell BK342.out 1).trans rfl, (blk_cell BK342.out 2).trans rfl, (blk_cell BK343.out 0).trans rfl, (blk_cell BK343.out 1).trans rfl, (blk_cell BK345.out 0).trans rfl, (blk_cell BK345.out 1).trans rfl, (blk_cell BK345.out 2).trans rfl, Xn hw349_0, Xn hw349_1, Xn hw349_2⟩ (fun hHeld => ?_)
   clear hK K
   refine Xno ?_
   refine Xpu 9 34 (XW.bs 20 1023) HT_.out ?_
   refine Xpn 10 35 (XW.bs 20 2047) HT_.out ?_
   refine Xpn 11 36 (XW.bs 20 4095) HT_.out ?_
   refine Xpn 12 37 (XW.bs 20 8191) HT_.out ?_
   refine Xpn 13 38 (XW.bs 20 16383) HT_.out ?_
   refine Xpn 14 39 (XW.bs 20 32767) HT_.out ?_
   refine Xpn 15 40 (XW.bs 20 65535) HT_.out ?_
   refine Xpn 16 41 (XW.bs 20 131071) HT_.out ?_
   refine Xpn 17 42 (XW.bs 20 262143) HT_.out ?_
   refine Xpn 18 43 (XW.bs 20 524287) HT_.out ?_
   refine Xpu 19 44 (XW.bs 20 1048575) HT_.out ?_
   refine done_ (done_of HT_.out (by kernel_rfl)) ?_
   try go_wp2_with (fail)
   go_roundg k1
   case measure => have := HK1.out; omega
   case rel => exact ⟨(x8_1), (wrap64 (x9_1 + 1)), Xr, H', Xk1, (Xp' HO_8), BK342, BK343, BK345, ⟨Xi⟩⟩
  obtain rfl := Option.some.inj H
  go_wp2
  go_ret
  exact ⟨_, Xe, Xq HO_8, Xi⟩
 exact absurd H (by simp)
def spec_BlockersOf.f (k : Nat) (a0_0 : Int) (a0_1 : Int) (l0_2 : List (S113)) (l1_0 : List (S39)) (l1_1 : List (S39)) (a2 : Int) : Option (List Int × Int) := (spec_l08Ask.f k a0_0 a0_1 l0_2 l1_0 l1_1 a2).bind fun t359 => (if t359 = 0 then ((spec_l08At.f k l1_0 l1_1 a2).bind fun t363 => (if t363 < 0 then (some ((([] : List Int)), 5)) else ((spec_l08Blockers.f k a0_0 a0_1 l0_2 l1_0 l1_1 t363).bind fun t367 => (some (t367, 0))))) else (some ((([] : List Int)), t359)))
theorem spec_BlockersOf.calls (k : Nat) (a0_0 : Int) (a0_1 : Int) (A0_2 : Option Addr) (c0_2 : Nat) (l0_2 : List (S113)) (A1_0 : Option Addr) (c1_0 : Nat) (l1_0 : List (S39)) (A1_1 : Option Addr) (c1_1 : Nat) (l1_1 : List (S39)) (a2 : Int) (r1 : List Int) (r2 : Int) (w : World) (hr0_2 : Kd.C k113 w A0_2 l0_2.length l0_2) (hc0_2 : l0_2.length ≤ c0_2) (hr1_0 : Kd.C k39 w A1_0 l1_0.length l1_0) (hc1_0 : l1_0.length ≤ c1_0) (hr1_1 : Kd.C k39 w A1_1 l1_1.length l1_1) (hc1_1 : l1_1.length ≤ c1_1) (h : spec_BlockersOf.f k a0_0 a0_1 l0_2 l1_0 l1_1 a2 = some (r1, r2)) :
  Calls Tryz.prog 22 #[.agg #[.int .i64 a0_0, .int .i64 a0_1, .slice A0_2 l0_2.length c0_2], .agg #[.slice A1_0 l1_0.length c1_0, .slice A1_1 l1_1.length c1_1], .int .i64 a2] w fun e w' => ∃ v0_ : Value, e = .returned (.tuple #[v0_, .int .i64 r2]) ∧ Kd.R (Kd.int .i64) 3 w' w.heap.size (fun _ => True) v0_ r1 ∧ Below w.heap.size w w' := by
 have hu35 := Tryz.underlying35
 have hu53 := Tryz.underlying53
 have HR0_2 := Aside0.mk hr0_2
 have HC0_2 := Aside0.mk hc0_2
 clear hr0_2 hc0_2
 have HR1_0 := Aside0.mk hr1_0
 have HC1_0 := Aside0.mk hc1_0
 clear hr1_0 hc1_0
 have HR1_1 := Aside0.mk hr1_1
 have HC1_1 := Aside0.mk hc1_1
 clear hr1_1 hc1_1
 have HB := Aside0.mk (Below.refl w.heap.size w)
 have H : ((spec_l08Ask.f k a0_0 a0_1 l0_2 l1_0 l1_1 a2).bind fun t359 => (if t359 = 0 then ((spec_l08At.f k l1_0 l1_1 a2).bind fun t363 => (if t363 < 0 then (some ((([] : List Int)), 5)) else ((spec_l08Blockers.f k a0_0 a0_1 l0_2 l1_0 l1_1 t363).bind fun t367 => (some (t367, 0))))) else (some ((([] : List Int)), t359)))) = some (r1, r2) := h
 clear h
 obtain ⟨t359, A4, H⟩ := Xbi H
 try dsimp only at H
 have HC5 := Aside0.mk H
 clear H
 go_enter Tryz.func22, Tryz.ntmps22
 go_upto_if 15 with (first | ((with_reducible refine gate_dst (N := 3) rfl ?_); refine Xbox 3 #[.int .i64 a0_0, .int .i64 a0_1, .slice A0_2 l0_2.length c0_2] 35 ?_; intro gb357 hg w6 hbox hb; have BK357 := Aside0.mk (hbox); have GE357 := Xge hg Xi; replace HB := Aside0.mk (below_step Xi hb); clear hb hbox hg) | ((with_reducible refine gate_dst (N := 4) rfl ?_); refine Xbox 4 #[.slice A1_0 l1_0.length c1_0, .slice A1_1 l1_1.length c1_1] 53 ?_; intro gb358 hg w7 hbox hb; have BK358 := Aside0.mk (hbox); have GE358 := Xge hg Xi; replace HB := Aside0.mk (below_step Xi hb); have NB357_358 := Xnb hg BK357; have NB358_357 := Xns NB357_358; replace BK357 := Xbb BK357 hb; clear hb hbox hg; have hnb8 := NB357_358.out; have hnc8 := NB358_357.out; obtain ⟨hcz9_0, hcz9_1, hcz9_2⟩ := Xc3 BK357; obtain ⟨hcz10_0, hcz10_1⟩ := Xc2 BK358) | ((with_reducible refine gate_callee (f := 54) rfl ?_); refine Xgo 13 Tryz.func54 #[.agg #[.int .i64 a0_0, .int .i64 a0_1, .slice A0_2 l0_2.length c0_2], .agg #[.slice A1_0 l1_0.length c1_0, .slice A1_1 l1_1.length c1_1], .int .i64 a2] ?_; (with_reducible refine (spec_l08Ask.calls k a0_0 a0_1 _ _ l0_2 _ _ l1_0 _ _ l1_1 a2 t359 _ ?side1 ?side2 ?side3 ?side4 ?side5 ?side6 A4.out).mono ?_); (case side1 => exact Xc HR0_2); (case side2 => exact HC0_2.out); (case side3 => exact Xc HR1_0); (case side4 => exact HC1_0.out); (case side5 => exact Xc HR1_1); (case side6 => exact HC1_1.out); rintro e w11 ⟨rfl, hb⟩; refine ⟨_, rfl, ?_⟩; replace BK357 := Xbb BK357 hb; replace BK358 := Xbb BK358 hb; replace HB := Aside0.mk (below_step Xi hb); clear hb))
 have H := HC5.out
 clear HC5
 obtain ⟨c12, H⟩ | ⟨c12, H⟩ := Xiu H
 ·have c12b0 : (t359 == 0) = true := beq_iff_eq.mpr c12
  have c12b1 : (t359 != 0) = false := bne_eq_false_iff_eq.mpr c12
  clear c12
  (first | rw [c12b0] | (simp only [i64_w, i32_w]; rw [c12b0]) | skip)
  obtain ⟨t363, A13, H⟩ := Xbi H
  try dsimp only at H
  have HC14 := Aside0.mk H
  clear H
  have hnb15 := NB358_357.out
  have hnc15 := NB357_358.out
  obtain ⟨hcz16_0, hcz16_1⟩ := Xc2 BK358
  go_upto_if 22 with (first | ((with_reducible refine gate_callee (f := 55) rfl ?_); refine Xgo 20 Tryz.func55 #[.agg #[.slice A1_0 l1_0.length c1_0, .slice A1_1 l1_1.length c1_1], .int .i64 a2] ?_; (with_reducible refine (spec_l08At.calls k _ _ l1_0 _ _ l1_1 a2 t363 _ ?side1 ?side2 ?side3 ?side4 A13.out).mono ?_); (case side1 => exact Xc HR1_0); (case side2 => exact HC1_0.out); (case side3 => exact Xc HR1_1); (case side4 => exact HC1_1.out); rintro e w17 ⟨rfl, hb⟩; refine ⟨_, rfl, ?_⟩; replace BK357 := Xbb BK357 hb; replace BK358 := Xbb BK358 hb; replace HB := Aside0.mk (below_step Xi hb); clear hb))
  have H := HC14.out
  clear HC14
  obtain ⟨c18b0, H⟩ | ⟨c18b0, H⟩ := Xit H
  ·(first | rw [c18b0] | (simp only [i64_w, i32_w]; rw [c18b0]) | skip)
   obtain ⟨y364, hy364⟩ : ∃ y_ : List Int, y_ = (([] : List Int)) := ⟨_, rfl⟩
   replace H : (some (y364, 5)) = some (r1, r2) := by first | (rw [hy364]; with_reducible exact H) | (have H2_ := (Option.bind_some _ _).symm.trans H; rw [hy364]; with_reducible exact H2_) | (have H2_ := (Option.bind_some _ _).symm.trans H; with_reducible exact H2_) | with_reducible exact H | (rw [hy364]; exact H) | exact H
   have Ny364 := Aside0.mk hy364
   clear hy364
   simp only [Option.some.injEq, Prod.mk.injEq] at H
   obtain ⟨rfl, rfl⟩ := H
   go_wp2_with (first | ((with_reducible refine gate_dst (N := 23) rfl ?_); refine Kd.R_lit (Kd.int .i64) _ 3 ?hg (N := 23) ?hd (xs := ([] : List Int)) (inner := []) (ok := fun _ => True) (okp := fun _ => True) ?hr ?hp (fun _ hk => hk) trivial (Below.refl _ _) (Nat.le_refl _) (by simp) ?_; (case hd => rfl); (case hg => rfl); (case hr => first | (go_simp; done) | (go_simp; rfl)); (case hp => exact (Reps.none _ _)); intro v365 w19 ho20 hb hg_ hnew_; clear hg_ hnew_; (first | rw [← Ny364.out] at ho20 | (simp only [Int.reduceToNat] at ho20; rw [← Ny364.out] at ho20)); have HO366 := Aside0.mk (Kd.R_lower ho20 (below_size Xi)); replace BK357 := Xbb BK357 hb; replace BK358 := Xbb BK358 hb; replace HB := Aside0.mk (below_step Xi hb); clear hb ho20))
   go_ret2
   exact ⟨_, Xe, Xq HO366, Xi⟩
  (first | rw [c18b0] | (simp only [i64_w, i32_w]; rw [c18b0]) | skip)
  obtain ⟨t367, A21, H⟩ := Xbi H
  try dsimp only at H
  simp only [Option.some.injEq, Prod.mk.injEq] at H
  obtain ⟨rfl, rfl⟩ := H
  have hnb22 := NB357_358.out
  have hnc22 := NB358_357.out
  obtain ⟨hcz23_0, hcz23_1, hcz23_2⟩ := Xc3 BK357
  obtain ⟨hcz24_0, hcz24_1⟩ := Xc2 BK358
  go_wp2_with (first | ((with_reducible refine gate_callee (f := 56) rfl ?_); refine Xgo 27 Tryz.func56 #[.agg #[.int .i64 a0_0, .int .i64 a0_1, .slice A0_2 l0_2.length c0_2], .agg #[.slice A1_0 l1_0.length c1_0, .slice A1_1 l1_1.length c1_1], .int .i64 t363] ?_; (with_reducible refine (spec_l08Blockers.calls k a0_0 a0_1 _ _ l0_2 _ _ l1_0 _ _ l1_1 t363 t367 _ ?side1 ?side2 ?side3 ?side4 ?side5 ?side6 A21.out).mono ?_); (case side1 => exact Xc HR0_2); (case side2 => exact HC0_2.out); (case side3 => exact Xc HR1_0); (case side4 => exact HC1_0.out); (case side5 => exact Xc HR1_1); (case side6 => exact HC1_1.out); rintro e w25 ⟨v368, rfl, ho0, hb⟩; refine ⟨_, rfl, ?_⟩; have HO369 := Aside0.mk (Kd.R_lower ho0 (below_size Xi)); replace BK357 := Xbb BK357 hb; replace BK358 := Xbb BK358 hb; replace HB := Aside0.mk (below_step Xi hb); clear hb; (try clear ho0)))
  go_ret2
  exact ⟨_, Xe, Xq HO369, Xi⟩
 have c12b0 : (t359 == 0) = false := beq_eq_false_iff_ne.mpr c12
 have c12b1 : (t359 != 0) = true := bne_iff_ne.mpr c12
 (first | rw [c12b0] | (simp only [i64_w, i32_w]; rw [c12b0]) | skip)
 obtain ⟨y360, hy360⟩ : ∃ y_ : List Int, y_ = (([] : List Int)) := ⟨_, rfl⟩
 replace H : (some (y360, t359)) = some (r1, r2) := by first | (rw [hy360]; with_reducible exact H) | (have H2_ := (Option.bind_some _ _).symm.trans H; rw [hy360]; with_reducible exact H2_) | (have H2_ := (Option.bind_some _ _).symm.trans H; with_reducible exact H2_) | with_reducible exact H | (rw [hy360]; exact H) | exact H
 have Ny360 := Aside0.mk hy360
 clear hy360
 simp only [Option.some.injEq, Prod.mk.injEq] at H
 obtain ⟨rfl, rfl⟩ := H
 go_wp2_with (first | ((with_reducible refine gate_dst (N := 16) rfl ?_); refine Kd.R_lit (Kd.int .i64) _ 3 ?hg (N := 16) ?hd (xs := ([] : List Int)) (inner := []) (ok := fun _ => True) (okp := fun _ => True) ?hr ?hp (fun _ hk => hk) trivial (Below.refl _ _) (Nat.le_refl _) (by simp) ?_; (case hd => rfl); (case hg => rfl); (case hr => first | (go_simp; done) | (go_simp; rfl)); (case hp => exact (Reps.none _ _)); intro v361 w26 ho27 hb hg_ hnew_; clear hg_ hnew_; (first | rw [← Ny360.out] at ho27 | (simp only [Int.reduceToNat] at ho27; rw [← Ny360.out] at ho27)); have HO362 := Aside0.mk (Kd.R_lower ho27 (below_size Xi)); replace BK357 := Xbb BK357 hb; replace BK358 := Xbb BK358 hb; replace HB := Aside0.mk (below_step Xi hb); clear hb ho27))
 go_ret2
 exact ⟨_, Xe, Xq HO362, Xi⟩
def laws_toHold.f (a0_0 : Int) (a0_1 : Int) (a0_2 : Int) : Option (Int × Int × Int) := some (a0_0, a0_1, a0_2)
theorem laws_toHold.calls (a0_0 : Int) (a0_1 : Int) (a0_2 : Int) (r1 : Int) (r2 : Int) (r3 : Int) (w : World) (h : laws_toHold.f a0_0 a0_1 a0_2 = some (r1, r2, r3)) :
  Calls Tryz.prog 12 #[.agg #[.int .i64 a0_0, .int .i64 a0_1, .int .i64 a0_2]] w fun e w' => e = .returned (.agg #[.int .i64 r1, .int .i64 r2, .int .i64 r3]) ∧ Below w.heap.size w w' := by
 have hu27 := Tryz.underlying27
 have hu39 := Tryz.underlying39
 have HB := Aside0.mk (Below.refl w.heap.size w)
 have H : (some (a0_0, a0_1, a0_2)) = some (r1, r2, r3) := h
 clear h
 simp only [Option.some.injEq, Prod.mk.injEq] at H
 obtain ⟨rfl, rfl, rfl⟩ := H
 go_enter Tryz.func12, Tryz.ntmps12
 go_wp2_with (first | ((with_reducible refine gate_dst (N := 1) rfl ?_); refine Xbox 1 #[.int .i64 a0_0, .int .i64 a0_1, .int .i64 a0_2] 27 ?_; intro gb370 hg w2 hbox hb; have BK370 := Aside0.mk (hbox); have GE370 := Xge hg Xi; replace HB := Aside0.mk (below_step Xi hb); clear hb hbox hg) | ((with_reducible refine gate_dst (N := 2) rfl ?_); refine Xbox 2 #[.int .i64 0, .int .i64 0, .int .i64 0] 39 ?_; intro gb371 hg w3 hbox hb; have BK371 := Aside0.mk (hbox); have GE371 := Xge hg Xi; replace HB := Aside0.mk (below_step Xi hb); have NB370_371 := Xnb hg BK370; have NB371_370 := Xns NB370_371; replace BK370 := Xbb BK370 hb; clear hb hbox hg) | ((with_reducible refine gate_dst (N := 3) rfl ?_); refine Xbox 3 #[.int .i64 0, .int .i64 0, .int .i64 0] 39 ?_; intro gb372 hg w4 hbox hb; have BK372 := Aside0.mk (hbox); have GE372 := Xge hg Xi; replace HB := Aside0.mk (below_step Xi hb); have NB370_372 := Xnb hg BK370; have NB372_370 := Xns NB370_372; replace BK370 := Xbb BK370 hb; have NB371_372 := Xnb hg BK371; have NB372_371 := Xns NB371_372; replace BK371 := Xbb BK371 hb; clear hb hbox hg; have hnb5 := NB370_371.out; have hnc5 := NB371_370.out; have hnb6 := NB370_372.out; have hnc6 := NB372_370.out; obtain ⟨hcz7_0, hcz7_1, hcz7_2⟩ := Xc3 BK370; obtain ⟨hfz7_0, hfz7_1, hfz7_2⟩ := Xf3 BK370; have hnb8 := NB372_371.out; have hnc8 := NB371_372.out; obtain ⟨hcz9_0, hcz9_1, hcz9_2⟩ := Xc3 BK372; obtain ⟨hfz9_0, hfz9_1, hfz9_2⟩ := Xf3 BK372; obtain ⟨hcz10_0, hcz10_1, hcz10_2⟩ := Xc3 BK371; obtain ⟨hfz10_0, hfz10_1, hfz10_2⟩ := Xf3 BK371) | ((with_reducible refine gate_store (t := 39) (p := 2) rfl ?_); refine store_event (t := 39) (p := 2) (v := ?vo_w11) (w1 := ((((((w4.setCell ⟨gb372, 0, none⟩ (.int .i64 a0_0)).setCell ⟨gb372, 1, none⟩ (.int .i64 a0_1)).setCell ⟨gb372, 2, none⟩ (.int .i64 a0_2)).setCell ⟨gb371, 0, none⟩ (.int .i64 a0_0)).setCell ⟨gb371, 1, none⟩ (.int .i64 a0_1)).setCell ⟨gb371, 2, none⟩ (.int .i64 a0_2))) ?hg ?ho ?hn ?hr ?_; (case ho => rfl); (case hg => rfl); (case hn => rfl); (case hr => first | (go_simp; done) | (go_simp; rfl)); intro w11 hw; have n0_ : Aside0 (w11.heap[gb370]? = some (.cells #[.int .i64 a0_0, .int .i64 a0_1, .int .i64 a0_2] 27 (0, 0))) := ⟨(by rw [hw]; exact (by (with_reducible repeat (first | refine blk_drewN ?_ _ | refine blk_drew ?_ | refine blk_alloc ?_ _)); refine blk_far ?_ NB370_371.out _; (with_reducible repeat (first | refine blk_drewN ?_ _ | refine blk_drew ?_ | refine blk_alloc ?_ _)); refine blk_far ?_ NB370_371.out _; (with_reducible repeat (first | refine blk_drewN ?_ _ | refine blk_drew ?_ | refine blk_alloc ?_ _)); refine blk_far ?_ NB370_371.out _; (with_reducible repeat (first | refine blk_drewN ?_ _ | refine blk_drew ?_ | refine blk_alloc ?_ _)); refine blk_far ?_ NB370_372.out _; (with_reducible repeat (first | refine blk_drewN ?_ _ | refine blk_drew ?_ | refine blk_alloc ?_ _)); refine blk_far ?_ NB370_372.out _; (with_reducible repeat (first | refine blk_drewN ?_ _ | refine blk_drew ?_ | refine blk_alloc ?_ _)); refine blk_far ?_ NB370_372.out _; (with_reducible repeat (first | refine blk_drewN ?_ _ | refine blk_drew ?_ | refine blk_alloc ?_ _)); exact BK370.out))⟩; have n1_ : Aside0 (w11.heap[gb371]? = some (.cells #[.int .i64 a0_0, .int .i64 a0_1, .int .i64 a0_2] 39 (0, 0))) := ⟨(by rw [hw]; exact (by (with_reducible repeat (first | refine blk_drewN ?_ _ | refine blk_drew ?_ | refine blk_alloc ?_ _)); refine blk_put (cs := #[.int .i64 a0_0, .int .i64 a0_1, .int .i64 0]) ?_ 2 _ rfl; (with_reducible repeat (first | refine blk_drewN ?_ _ | refine blk_drew ?_ | refine blk_alloc ?_ _)); refine blk_put (cs := #[.int .i64 a0_0, .int .i64 0, .int .i64 0]) ?_ 1 _ rfl; (with_reducible repeat (first | refine blk_drewN ?_ _ | refine blk_drew ?_ | refine blk_alloc ?_ _)); refine blk_put (cs := #[.int .i64 0, .int .i64 0, .int .i64 0]) ?_ 0 _ rfl; (with_reducible repeat (first | refine blk_drewN ?_ _ | refine blk_drew ?_ | refine blk_alloc ?_ _)); refine blk_far ?_ NB371_372.out _; (with_reducible repeat (first | refine blk_drewN ?_ _ | refine blk_drew ?_ | refine blk_alloc ?_ _)); refine blk_far ?_ NB371_372.out _; (with_reducible repeat (first | refine blk_drewN ?_ _ | refine blk_drew ?_ | refine blk_alloc ?_ _)); refine blk_far ?_ NB371_372.out _; (with_reducible repeat (first | refine blk_drewN ?_ _ | refine blk_drew ?_ | refine blk_alloc ?_ _)); exact BK371.out))⟩; have n2_ : Aside0 (w11.heap[gb372]? = some (.cells #[.int .i64 a0_0, .int .i64 a0_1, .int .i64 a0_2] 39 (0, 0))) := ⟨(by rw [hw]; exact (by (with_reducible repeat (first | refine blk_drewN ?_ _ | refine blk_drew ?_ | refine blk_alloc ?_ _)); refine blk_far ?_ NB372_371.out _; (with_reducible repeat (first | refine blk_drewN ?_ _ | refine blk_drew ?_ | refine blk_alloc ?_ _)); refine blk_far ?_ NB372_371.out _; (with_reducible repeat (first | refine blk_drewN ?_ _ | refine blk_drew ?_ | refine blk_alloc ?_ _)); refine blk_far ?_ NB372_371.out _; (with_reducible repeat (first | refine blk_drewN ?_ _ | refine blk_drew ?_ | refine blk_alloc ?_ _)); refine blk_put (cs := #[.int .i64 a0_0, .int .i64 a0_1, .int .i64 0]) ?_ 2 _ rfl; (with_reducible repeat (first | refine blk_drewN ?_ _ | refine blk_drew ?_ | refine blk_alloc ?_ _)); refine blk_put (cs := #[.int .i64 a0_0, .int .i64 0, .int .i64 0]) ?_ 1 _ rfl; (with_reducible repeat (first | refine blk_drewN ?_ _ | refine blk_drew ?_ | refine blk_alloc ?_ _)); refine blk_put (cs := #[.int .i64 0, .int .i64 0, .int .i64 0]) ?_ 0 _ rfl; (with_reducible repeat (first | refine blk_drewN ?_ _ | refine blk_drew ?_ | refine blk_alloc ?_ _)); exact BK372.out))⟩; have n3_ : Aside0 (Below w.heap.size w w11) := ⟨(by rw [hw]; exact Xi)⟩; clear hw; clear BK370; clear BK371; clear BK372; clear HB; have BK370 := n0_; have BK371 := n1_; have BK372 := n2_; have HB := n3_; clear n0_ n1_ n2_ n3_))
 refine bodyPost_ret (results_cell_row rfl _ _ gb371 39 #[.int .i64 a0_0, .int .i64 a0_1, .int .i64 a0_2] (0, 0) _ rfl BK371.out Tryz.underlying39 rfl (by kernel_rfl)) rfl ?_
 exact ⟨Xe, Xi⟩
def laws_toHoldS.l0 : Nat → List (S27) → List (S39) → Int → Option ((List (S39)))
 | 0, _, _, _ => none
 | k + 1, x0, x3, x4 => if x4 < (x0.length : Int) then (if 0 ≤ x4 then ((laws_toHold.f ((rd_T27 x0 x4).f0) ((rd_T27 x0 x4).f1) ((rd_T27 x0 x4).f2)).bind fun bt377 => (if x4 < (x3.length : Int) then (laws_toHoldS.l0 k x0 (x3.set (x4 : Int).toNat (⟨bt377.1, bt377.2.1, bt377.2.2⟩ : S39)) (wrap64 (x4 + 1))) else (none))) else (none)) else (some x3)
def laws_toHoldS.f (k : Nat) (l0 : List (S27)) : Option ((List (S39))) := if 0 ≤ (l0.length : Int) then (if ((l0.length : Int) : Int).toNat ≤ 11728124029610 then (laws_toHoldS.l0 k l0 (List.replicate ((l0.length : Int) : Int).toNat z39) 0) else (none)) else (none)
theorem laws_toHoldS.calls (k : Nat) (A0 : Option Addr) (c0 : Nat) (l0 : List (S27)) (r : List (S39)) (w : World) (hr0 : Kd.C k27 w A0 l0.length l0) (hc0 : l0.length ≤ c0) (h : laws_toHoldS.f k l0 = some r) :
  Calls Tryz.prog 11 #[.slice A0 l0.length c0] w fun e w' => ∃ v0_ : Value, e = .returned (v0_) ∧ Kd.R k39 39 w' w.heap.size (fun _ => True) v0_ r ∧ Below w.heap.size w w' := by
 have hu27 := Tryz.underlying27
 have hu39 := Tryz.underlying39
 have HR0 := Aside0.mk hr0
 have HC0 := Aside0.mk hc0
 clear hr0 hc0
 have HB := Aside0.mk (Below.refl w.heap.size w)
 have H : (if 0 ≤ (l0.length : Int) then (if ((l0.length : Int) : Int).toNat ≤ 11728124029610 then (laws_toHoldS.l0 k l0 (List.replicate ((l0.length : Int) : Int).toNat z39) 0) else (none)) else (none)) = some r := h
 clear h
 obtain ⟨c2, H⟩ | ⟨c2, H⟩ := Xiu H
 ·have c2b0 := eq_true c2
  have c2b1 : decide (0 ≤ (l0.length : Int)) = true := decide_eq_true c2
  clear c2
  obtain ⟨c3, H⟩ := Xif H
  have c3b0 := eq_true c3
  have c3b1 : decide (((l0.length : Int) : Int).toNat ≤ 11728124029610) = true := decide_eq_true c3
  clear c3
  obtain ⟨y373, hy373⟩ : ∃ y_ : List (S39), y_ = (List.replicate ((l0.length : Int) : Int).toNat z39) := ⟨_, rfl⟩
  replace H : (laws_toHoldS.l0 k l0 y373 0) = some r := by first | (rw [hy373]; with_reducible exact H) | (have H2_ := (Option.bind_some _ _).symm.trans H; rw [hy373]; with_reducible exact H2_) | (have H2_ := (Option.bind_some _ _).symm.trans H; with_reducible exact H2_) | with_reducible exact H | (rw [hy373]; exact H) | exact H
  have Ny373 := Aside0.mk hy373
  clear hy373
  have H' := Aside0.mk H
  clear H
  go_enter Tryz.func11, Tryz.ntmps11
  go_wp2_with (first | ((with_reducible refine gate_dst (N := 7) rfl ?_); refine Kd.R_make k39 _ 39 rfl (N := 7) rfl 37 _ _ rfl (l0.length : Int) rfl rfl Tryz.underlying37 (.agg #[(.int .i64 0), (.int .i64 0), (.int .i64 0)]) 24 info39 rfl (by decide) (by omega) z39 (ok := fun _ => True) (okp := fun _ => True) (k39_mkM _ _ _ z39 ) (fun _ hk => hk) trivial (of_decide_eq_true Xa) (Nat.le_trans (Nat.mul_le_mul_right _ (of_decide_eq_true Xa : (l0.length : Int).toNat ≤ 11728124029610)) (by omega)) (Below.refl _ _) (Nat.le_refl _) ?_; intro v374 w4 ho5 hb hg_ hnew_; clear hg_ hnew_; (first | rw [← Ny373.out] at ho5 | (simp only [Int.reduceToNat] at ho5; rw [← Ny373.out] at ho5)); have HO375 := Aside0.mk (Kd.R_lower ho5 (below_size Xi)); replace HB := Aside0.mk (below_step Xi hb); clear hb ho5))
  go_loopg [4] k (fun kq v4 w' => ∃ (x3_1 : List (S39)) (x4_1 : Int), v4 = .int .i64 x4_1 ∧ Aside0 (laws_toHoldS.l0 kq l0 x3_1 x4_1 = some r) ∧ Aside0 (kq ≤ k) ∧ Aside0 (Kd.R k39 39 w' w.heap.size (fun _ => True) v374 x3_1) ∧ Aside0 (Below w.heap.size w w'))
  case atStart => exact ⟨(y373), (0), Xr, H', Xkr, (Xp' HO375), ⟨Xi⟩⟩
  clear H'
  (try clear c2); (try clear c2b0); (try clear c2b1); (try clear c3); (try clear c3b0); (try clear c3b1)
  obtain ⟨x3_1, x4_1, rfl, HA, HK1, HO_3, HB⟩ := hrel
  cases gk with | zero => cases HA.out | succ k1 => ?_
  have H := HA.out
  clear HA
  simp only [laws_toHoldS.l0] at H
  obtain ⟨c6b0, H⟩ | ⟨c6b0, H⟩ := Xit H
  ·obtain ⟨c7b0, H⟩ := Xid H
   replace H := Option.bind_eq_some_iff.mp H
   obtain ⟨⟨t377, t378, t379⟩, A80, H⟩ := H
   try dsimp only at H
   have A8 := Aside0.mk A80
   clear A80
   obtain ⟨c9b0, H⟩ := Xid H
   obtain ⟨y380, hy380⟩ : ∃ y_ : List (S39), y_ = (x3_1.set (x4_1 : Int).toNat (⟨t377, t378, t379⟩ : S39)) := ⟨_, rfl⟩
   replace H : (laws_toHoldS.l0 k1 l0 y380 (wrap64 (x4_1 + 1))) = some r := by first | (rw [hy380]; with_reducible exact H) | (have H2_ := (Option.bind_some _ _).symm.trans H; rw [hy380]; with_reducible exact H2_) | (have H2_ := (Option.bind_some _ _).symm.trans H; with_reducible exact H2_) | with_reducible exact H | (rw [hy380]; exact H) | exact H
   have Ny380 := Aside0.mk hy380
   clear hy380
   have H' := Aside0.mk H
   clear H
   obtain ⟨ad376, e376, p376, q376, hx376_0, hx376_1, hx376_2⟩ := at_B27 HR0 x4_1 Xa Xa HB
   cases e376
   go_wp2_with (first | ((with_reducible refine gate_callee (f := 12) rfl ?_); refine Xgo 20 Tryz.func12 #[.agg #[.int .i64 ((rd_T27 l0 x4_1).f0), .int .i64 ((rd_T27 l0 x4_1).f1), .int .i64 ((rd_T27 l0 x4_1).f2)]] ?_; (with_reducible refine (laws_toHold.calls ((rd_T27 l0 x4_1).f0) ((rd_T27 l0 x4_1).f1) ((rd_T27 l0 x4_1).f2) t377 t378 t379 _ A8.out).mono ?_); rintro e w11 ⟨rfl, hb⟩; refine ⟨_, rfl, ?_⟩; replace HO_3 := Aside0.mk (Kd.R_below (Xq HO_3) hb); replace HB := Aside0.mk (below_step Xi hb); clear hb; have p10 : 0 ≤ (x4_1 : Int) := of_decide_eq_true Xa; have q10 : (x4_1 : Int) < ((x3_1.length : Int) : Int) := of_decide_eq_true Xa; obtain ⟨go10, co10, eo10, gb10, gl10, cl10, HG10⟩ := Kd.R_form HO_3.out (by omega); (first | cases eo10 | (injection eo10 with ea_ en_ ec_; (first | subst ea_ | (injection ea_ with ea_; subst ea_)); subst ec_; clear en_)); have GB10 := Aside0.mk gb10; have GG10 := Aside0.mk HG10; clear gb10 gl10 HG10; obtain ⟨ce10, hcl10, hM10, hcc10, hfr10⟩ := Kd.R_elem HO_3.out z39 (x4_1 : Int) p10 q10; obtain rfl := k39_openM hM10; have hx10_0 : w11.cell? ⟨go10, (x4_1 : Int).toNat * 3, none⟩ = some (.int .i64 ((rd_T39 x3_1 x4_1).f0)) := hcc10 0 _ rfl; have hx10_1 : w11.cell? ⟨go10, (x4_1 : Int).toNat * 3 + 1, none⟩ = some (.int .i64 ((rd_T39 x3_1 x4_1).f1)) := hcc10 1 _ rfl; have hx10_2 : w11.cell? ⟨go10, (x4_1 : Int).toNat * 3 + 2, none⟩ = some (.int .i64 ((rd_T39 x3_1 x4_1).f2)) := hcc10 2 _ rfl; have hf10_0 : w11.frozen? ⟨go10, (x4_1 : Int).toNat * 3, none⟩ = false := hfr10 0; have hf10_1 : w11.frozen? ⟨go10, (x4_1 : Int).toNat * 3 + 1, none⟩ = false := hfr10 1; have hf10_2 : w11.frozen? ⟨go10, (x4_1 : Int).toNat * 3 + 2, none⟩ = false := hfr10 2; clear hcl10 hcc10 hfr10; (try clear hM10); replace p10 := eq_true p10; replace q10 := eq_true q10; have HX12 := Aside0.mk (show Kd.R k39 39 w11 w.heap.size (fun _ => True) (.slice (some ⟨go10, 0, none⟩) x3_1.length co10) x3_1 from (Xq HO_3)); obtain ⟨ce12, hcl12, hM12, hcc12, hfr12⟩ := Kd.R_elem HX12.out z39 (x4_1 : Int) (of_decide_eq_true Xa) (by have h_ : (x4_1 : Int) < ((x3_1.length : Int) : Int) := of_decide_eq_true Xa; first | exact h_ | (have e_ := (Kd.R_reads' HO_3.out).1; omega) | simpa using h_); obtain rfl := k39_openM hM12; have HP12 := Kd.R_seg HX12.out (x4_1 : Int) (of_decide_eq_true Xa) (by have h_ : (x4_1 : Int) < ((x3_1.length : Int) : Int) := of_decide_eq_true Xa; first | exact h_ | (have e_ := (Kd.R_reads' HO_3.out).1; omega) | simpa using h_) (seg := [.int .i64 t377, .int .i64 t378, .int .i64 t379]) (j := 0) hcl12 hcc12 (show 3 ≤ 3 from by decide) (x' := (⟨t377, t378, t379⟩ : S39)) (k39_mkM _ _ _ (⟨t377, t378, t379⟩ : S39) ) (fun _ hk => hk); have hx12_0 := hcc12 0 _ rfl; (try simp only [show (k39).sz = 3 from rfl, Nat.mul_one, Nat.add_zero] at hx12_0); have hf12_0 := hfr12 0; (try simp only [show (k39).sz = 3 from rfl, Nat.mul_one, Nat.add_zero] at hf12_0); have hx12_1 := hcc12 1 _ rfl; (try simp only [show (k39).sz = 3 from rfl, Nat.mul_one, Nat.add_zero] at hx12_1); have hf12_1 := hfr12 1; (try simp only [show (k39).sz = 3 from rfl, Nat.mul_one, Nat.add_zero] at hf12_1); have hx12_2 := hcc12 2 _ rfl; (try simp only [show (k39).sz = 3 from rfl, Nat.mul_one, Nat.add_zero] at hx12_2); have hf12_2 := hfr12 2; (try simp only [show (k39).sz = 3 from rfl, Nat.mul_one, Nat.add_zero] at hf12_2); clear hcl12 hcc12 hfr12; (try clear hM12)) | ((with_reducible refine gate_store (t := 39) (p := 21) rfl ?_); refine store_event (t := 39) (p := 21) (v := ?vo_w13) (w1 := (((w11.setCell ⟨go10, (x4_1 : Int).toNat * 3, none⟩ (.int .i64 t377)).setCell ⟨go10, (x4_1 : Int).toNat * 3 + 1, none⟩ (.int .i64 t378)).setCell ⟨go10, (x4_1 : Int).toNat * 3 + 2, none⟩ (.int .i64 t379))) ?hg ?ho ?hn ?hr ?_; (case ho => rfl); (case hg => rfl); (case hn => rfl); (case hr => first | (go_simp; done) | (go_simp; rfl)); intro w13 hw; have hg : w11.grownBy w13 (some go10) := (by rw [hw]; exact HP12.2); have hp_ : Kd.R k39 39 w13 w.heap.size (fun _ => True) (.slice (some ⟨go10, 0, none⟩) x3_1.length co10) y380 := (by rw [hw, Ny380.out]; exact HP12.1); clear HP12; replace HO_3 := Aside0.mk (hp_); replace HB := Aside0.mk ((by rw [hw]; exact below_set (below_set (below_set (HB.out) GB10.out) GB10.out) GB10.out : Below w.heap.size w w13)); clear hg hw hp_))
   go_roundg k1
   case measure => have := HK1.out; omega
   case rel => exact ⟨(y380), (wrap64 (x4_1 + 1)), Xr, H', Xk1, (Xp' HO_3), ⟨Xi⟩⟩
  obtain rfl := Option.some.inj H
  go_wp2
  go_ret
  exact ⟨_, Xe, Xq HO_3, Xi⟩
 exact absurd H (by simp)
def laws_toTable.f (k : Nat) (l0_0 : List (S27)) (l0_1 : List (S27)) : Option ((List (S39)) × (List (S39))) := (laws_toHoldS.f k l0_0).bind fun t384 => ((laws_toHoldS.f k l0_1).bind fun t387 => (some (t384, t387)))
theorem laws_toTable.calls (k : Nat) (A0_0 : Option Addr) (c0_0 : Nat) (l0_0 : List (S27)) (A0_1 : Option Addr) (c0_1 : Nat) (l0_1 : List (S27)) (r1 : List (S39)) (r2 : List (S39)) (w : World) (hr0_0 : Kd.C k27 w A0_0 l0_0.length l0_0) (hc0_0 : l0_0.length ≤ c0_0) (hr0_1 : Kd.C k27 w A0_1 l0_1.length l0_1) (hc0_1 : l0_1.length ≤ c0_1) (h : laws_toTable.f k l0_0 l0_1 = some (r1, r2)) :
  Calls Tryz.prog 23 #[.agg #[.slice A0_0 l0_0.length c0_0, .slice A0_1 l0_1.length c0_1]] w fun e w' => ∃ v0_ v1_ : Value, e = .returned (.agg #[v0_, v1_]) ∧ Kd.R k39 39 w' w.heap.size (fun k_ => some k_ ≠ (v1_ : Value).ownBlock) v0_ r1 ∧ Kd.R k39 39 w' w.heap.size (fun k_ => some k_ ≠ (v0_ : Value).ownBlock) v1_ r2 ∧ Below w.heap.size w w' := by
 have hu49 := Tryz.underlying49
 have hu53 := Tryz.underlying53
 have HR0_0 := Aside0.mk hr0_0
 have HC0_0 := Aside0.mk hc0_0
 clear hr0_0 hc0_0
 have HR0_1 := Aside0.mk hr0_1
 have HC0_1 := Aside0.mk hc0_1
 clear hr0_1 hc0_1
 have HB := Aside0.mk (Below.refl w.heap.size w)
 have H : ((laws_toHoldS.f k l0_0).bind fun t384 => ((laws_toHoldS.f k l0_1).bind fun t387 => (some (t384, t387)))) = some (r1, r2) := h
 clear h
 obtain ⟨t384, A2, H⟩ := Xbi H
 try dsimp only at H
 obtain ⟨t387, A3, H⟩ := Xbi H
 try dsimp only at H
 simp only [Option.some.injEq, Prod.mk.injEq] at H
 obtain ⟨rfl, rfl⟩ := H
 go_enter Tryz.func23, Tryz.ntmps23
 go_wp2_with (first | ((with_reducible refine gate_dst (N := 1) rfl ?_); refine Xbox 1 #[.slice A0_0 l0_0.length c0_0, .slice A0_1 l0_1.length c0_1] 49 ?_; intro gb381 hg w4 hbox hb; have BK381 := Aside0.mk (hbox); have GE381 := Xge hg Xi; replace HB := Aside0.mk (below_step Xi hb); clear hb hbox hg) | ((with_reducible refine gate_dst (N := 2) rfl ?_); refine Xbox 2 #[.slice none 0 0, .slice none 0 0] 53 ?_; intro gb382 hg w5 hbox hb; have BK382 := Aside0.mk (hbox); have GE382 := Xge hg Xi; replace HB := Aside0.mk (below_step Xi hb); have NB381_382 := Xnb hg BK381; have NB382_381 := Xns NB381_382; replace BK381 := Xbb BK381 hb; clear hb hbox hg) | ((with_reducible refine gate_dst (N := 3) rfl ?_); refine Xbox 3 #[.slice none 0 0, .slice none 0 0] 53 ?_; intro gb383 hg w6 hbox hb; have BK383 := Aside0.mk (hbox); have GE383 := Xge hg Xi; replace HB := Aside0.mk (below_step Xi hb); have NB381_383 := Xnb hg BK381; have NB383_381 := Xns NB381_383; replace BK381 := Xbb BK381 hb; have NB382_383 := Xnb hg BK382; have NB383_382 := Xns NB382_383; replace BK382 := Xbb BK382 hb; clear hb hbox hg; have hnb7 := NB381_382.out; have hnc7 := NB382_381.out; have hnb8 := NB381_383.out; have hnc8 := NB383_381.out; obtain ⟨hcz9_0, hcz9_1⟩ := Xc2 BK381; obtain ⟨hfz9_0, hfz9_1⟩ := Xf2 BK381) | ((with_reducible refine gate_callee (f := 11) rfl ?_); refine Xgo 6 Tryz.func11 #[.slice A0_0 l0_0.length c0_0] ?_; (with_reducible refine (laws_toHoldS.calls k _ _ l0_0 t384 _ ?side1 ?side2 A2.out).mono ?_); (case side1 => exact Xc HR0_0); (case side2 => exact HC0_0.out); rintro e w10 ⟨v385, rfl, ho0, hb⟩; refine ⟨_, rfl, ?_⟩; have HO386 := Aside0.mk (Kd.R_lower ho0 (below_size Xi)); replace BK381 := Xbb BK381 hb; replace BK382 := Xbb BK382 hb; replace BK383 := Xbb BK383 hb; replace HB := Aside0.mk (below_step Xi hb); clear hb; (try clear ho0); obtain ⟨Ao11, co11, eo11⟩ := Kd.R_slice HO386.out; subst eo11; have hnb12 := NB383_382.out; have hnc12 := NB382_383.out; obtain ⟨hcz13_0, hcz13_1⟩ := Xc2 BK383; obtain ⟨hfz13_0, hfz13_1⟩ := Xf2 BK383; obtain ⟨hcz14_0, hcz14_1⟩ := Xc2 BK381; obtain ⟨hfz14_0, hfz14_1⟩ := Xf2 BK381) | ((with_reducible refine gate_callee (f := 11) rfl ?_); refine Xgo 10 Tryz.func11 #[.slice A0_1 l0_1.length c0_1] ?_; (with_reducible refine (laws_toHoldS.calls k _ _ l0_1 t387 _ ?side1 ?side2 A3.out).mono ?_); (case side1 => exact Xc HR0_1); (case side2 => exact HC0_1.out); rintro e w15 ⟨v388, rfl, ho0, hb⟩; refine ⟨_, rfl, ?_⟩; have HO389 := Aside0.mk (Kd.R_lower (Kd.R_new' ho0 (Kd.R_lt (by (with_reducible repeat (first | apply Kd.R_alloc | apply Kd.R_drewN | apply Kd.R_drew)); exact (Kd.R_mono (Kd.R_far (p := ⟨gb383, 0, none⟩) (Kd.R_types HO386.out BK383.out (by decide)) (fun _ hk => hk.2) (.slice Ao11 t384.length co11)) (fun _ h_ => h_.1))))) (below_size Xi)); replace HO386 := Aside0.mk (Kd.R_elder' (by (with_reducible repeat (first | apply Kd.R_alloc | apply Kd.R_drewN | apply Kd.R_drew)); exact (Kd.R_mono (Kd.R_far (p := ⟨gb383, 0, none⟩) (Kd.R_types HO386.out BK383.out (by decide)) (fun _ hk => hk.2) (.slice Ao11 t384.length co11)) (fun _ h_ => h_.1))) (Kd.R_base ho0) hb); replace BK381 := Aside0.mk (blk_below (g := gb381) (o := .cells #[.slice A0_0 l0_0.length c0_0, .slice A0_1 l0_1.length c0_1] 49 (0, 0)) (by (with_reducible repeat (first | refine blk_drewN ?_ _ | refine blk_drew ?_ | refine blk_alloc ?_ _)); refine blk_far ?_ NB381_383.out _; (with_reducible repeat (first | refine blk_drewN ?_ _ | refine blk_drew ?_ | refine blk_alloc ?_ _)); exact BK381.out) hb); replace BK382 := Aside0.mk (blk_below (g := gb382) (o := .cells #[.slice none 0 0, .slice none 0 0] 53 (0, 0)) (by (with_reducible repeat (first | refine blk_drewN ?_ _ | refine blk_drew ?_ | refine blk_alloc ?_ _)); refine blk_far ?_ NB382_383.out _; (with_reducible repeat (first | refine blk_drewN ?_ _ | refine blk_drew ?_ | refine blk_alloc ?_ _)); exact BK382.out) hb); replace BK383 := Aside0.mk (blk_below (g := gb383) (o := .cells #[.slice Ao11 t384.length co11, .slice none 0 0] 53 (0, 0)) (by (with_reducible repeat (first | refine blk_drewN ?_ _ | refine blk_drew ?_ | refine blk_alloc ?_ _)); refine blk_put (cs := #[.slice none 0 0, .slice none 0 0]) ?_ 0 _ rfl; (with_reducible repeat (first | refine blk_drewN ?_ _ | refine blk_drew ?_ | refine blk_alloc ?_ _)); exact BK383.out) hb); replace HB := Aside0.mk (below_step Xi hb); clear hb; (try clear ho0); obtain ⟨Ao16, co16, eo16⟩ := Kd.R_slice HO389.out; subst eo16; obtain ⟨hcz17_0, hcz17_1⟩ := Xc2 BK383; obtain ⟨hfz17_0, hfz17_1⟩ := Xf2 BK383; obtain ⟨hcz18_0, hcz18_1⟩ := Xc2 BK382; obtain ⟨hfz18_0, hfz18_1⟩ := Xf2 BK382))
 refine bodyPost_ret (results_cell_row rfl _ _ gb382 53 #[.slice Ao11 t384.length co11, .slice Ao16 t387.length co16] (0, 0) _ rfl (by (with_reducible repeat (first | refine blk_drewN ?_ _ | refine blk_drew ?_ | refine blk_alloc ?_ _)); refine blk_put (cs := #[.slice Ao11 t384.length co11, .slice none 0 0]) ?_ 1 _ rfl; (with_reducible repeat (first | refine blk_drewN ?_ _ | refine blk_drew ?_ | refine blk_alloc ?_ _)); refine blk_put (cs := #[.slice none 0 0, .slice none 0 0]) ?_ 0 _ rfl; (with_reducible repeat (first | refine blk_drewN ?_ _ | refine blk_drew ?_ | refine blk_alloc ?_ _)); refine blk_far ?_ NB382_383.out _; (with_reducible repeat (first | refine blk_drewN ?_ _ | refine blk_drew ?_ | refine blk_alloc ?_ _)); exact BK382.out) Tryz.underlying53 rfl (by kernel_rfl)) rfl ?_
 exact ⟨_, _, by first | rfl | (simp <;> rfl) | (simp [*] <;> rfl), by (with_reducible repeat (first | apply Kd.R_alloc | apply Kd.R_drewN | apply Kd.R_drew)); exact Kd.R_mono (Kd.R_far (p := ⟨gb382, 1, none⟩) (Kd.R_far (p := ⟨gb382, 0, none⟩) (Kd.R_far (p := ⟨gb383, 1, none⟩) (Kd.R_types (Kd.R_types HO386.out BK383.out (by decide)) BK382.out (by decide)) (fun _ hk => hk.1.2) (.slice Ao16 t387.length co16)) (fun _ hk => hk.2) (.slice Ao11 t384.length co11)) (fun _ hk => hk.2) (.slice Ao16 t387.length co16)) (fun _ hk => hk.1.1.2), by (with_reducible repeat (first | apply Kd.R_alloc | apply Kd.R_drewN | apply Kd.R_drew)); exact Kd.R_mono (Kd.R_far (p := ⟨gb382, 1, none⟩) (Kd.R_far (p := ⟨gb382, 0, none⟩) (Kd.R_far (p := ⟨gb383, 1, none⟩) (Kd.R_types (Kd.R_types HO389.out BK383.out (by decide)) BK382.out (by decide)) (fun _ hk => hk.1.2) (.slice Ao16 t387.length co16)) (fun _ hk => hk.2) (.slice Ao11 t384.length co11)) (fun _ hk => hk.2) (.slice Ao16 t387.length co16)) (fun _ hk => hk.1.1.2), Xi⟩
def impl_within.f (a0 : Int) (a1 : Int) (a2 : Int) : Option (Bool) := if a0 ≥ a1 then (some (decide (a0 ≤ a2))) else (some false)
theorem impl_within.calls (a0 : Int) (a1 : Int) (a2 : Int) (r : Bool) (w : World) (h : impl_within.f a0 a1 a2 = some r) :
  Calls Tryz.prog 124 #[.int .i64 a0, .int .i64 a1, .int .i64 a2] w fun e w' => e = .returned (.bool r) ∧ Drawn0 w w' := by
 have H : (if a0 ≥ a1 then (some (decide (a0 ≤ a2))) else (some false)) = some r := h
 clear h
 obtain ⟨c4, H⟩ | ⟨c4, H⟩ := Xiu H
 ·have c4b0 : decide (a1 ≤ a0) = true := decide_eq_true c4
  clear c4
  obtain rfl := Option.some.inj H
  go_enter Tryz.func124, Tryz.ntmps124
  go_wp2
  go_ret
  exact ⟨Xr, Xdr⟩
 have c4b0 : decide (a1 ≤ a0) = false := decide_eq_false c4
 clear c4
 obtain rfl := Option.some.inj H
 go_enter Tryz.func124, Tryz.ntmps124
 go_wp2
 go_ret
 exact ⟨Xr, Xdr⟩
def impl_Doc_find_1.f (a0_0 : Int) (a0_1 : Int) (a0_2 : Int) (a0_3 : ByteArray) (l0_4 : List Int) (a1 : Int) : Option (Int) := some (wrap64 (a0_0 - a1))
theorem impl_Doc_find_1.calls (a0_0 : Int) (a0_1 : Int) (a0_2 : Int) (a0_3 : ByteArray) (A0_4 : Option Addr) (c0_4 : Nat) (l0_4 : List Int) (a1 : Int) (r : Int) (w : World) (hr0_4 : Kd.C (Kd.int .i64) w A0_4 l0_4.length l0_4) (hc0_4 : l0_4.length ≤ c0_4) (h : impl_Doc_find_1.f a0_0 a0_1 a0_2 a0_3 l0_4 a1 = some r) :
  Calls Tryz.prog 186 #[.agg #[.int .i64 a0_0, .int .i64 a0_1, .int .i64 a0_2, .string a0_3, .slice A0_4 l0_4.length c0_4], .int .i64 a1] w fun e w' => e = .returned (.int .i64 r) ∧ Below w.heap.size w w' := by
 have hu113 := Tryz.underlying113
 have HR0_4 := Aside0.mk hr0_4
 have HC0_4 := Aside0.mk hc0_4
 clear hr0_4 hc0_4
 have HB := Aside0.mk (Below.refl w.heap.size w)
 have H : (some (wrap64 (a0_0 - a1))) = some r := h
 clear h
 obtain rfl := Option.some.inj H
 go_enter Tryz.func186, Tryz.ntmps186
 go_wp2_with (first | ((with_reducible refine gate_dst (N := 2) rfl ?_); refine Xbox 2 #[.int .i64 a0_0, .int .i64 a0_1, .int .i64 a0_2, .string a0_3, .slice A0_4 l0_4.length c0_4] 113 ?_; intro gb391 hg w3 hbox hb; have BK391 := Aside0.mk (hbox); have GE391 := Xge hg Xi; replace HB := Aside0.mk (below_step Xi hb); clear hb hbox hg; obtain ⟨hcz4_0, hcz4_1, hcz4_2, hcz4_3, hcz4_4⟩ := Xc5 BK391))
 go_ret
 exact ⟨Xe, Xi⟩
def slices_BinarySearchFunc_impl_Node_impl_Node_int_at_impl_Doc_find_1.l0 : Nat → List (S113) → Int → Int → Int → Int → Option (Int × Bool)
 | 0, _, _, _, _, _ => none
 | k + 1, x0, x1, x8, x9, x10 => if x9 < x10 then (if 0 ≤ (wrap64 ((IntKind.u64.wrap (wrap64 (x9 + x10))) / 2)) then (if (wrap64 ((IntKind.u64.wrap (wrap64 (x9 + x10))) / 2)) < (x0.length : Int) then ((impl_Doc_find_1.f ((rd_T113 x0 (wrap64 ((IntKind.u64.wrap (wrap64 (x9 + x10))) / 2))).f0) ((rd_T113 x0 (wrap64 ((IntKind.u64.wrap (wrap64 (x9 + x10))) / 2))).f1) ((rd_T113 x0 (wrap64 ((IntKind.u64.wrap (wrap64 (x9 + x10))) / 2))).f2) ((rd_T113 x0 (wrap64 ((IntKind.u64.wrap (wrap64 (x9 + x10))) / 2))).f3) ((rd_T113 x0 (wrap64 ((IntKind.u64.wrap (wrap64 (x9 + x10))) / 2))).f4) x1).bind fun t393 => (if t393 < 0 then (slices_BinarySearchFunc_impl_Node_impl_Node_int_at_impl_Doc_find_1.l0 k x0 x1 x8 (wrap64 ((wrap64 ((IntKind.u64.wrap (wrap64 (x9 + x10))) / 2)) + 1)) x10) else (slices_BinarySearchFunc_impl_Node_impl_Node_int_at_impl_Doc_find_1.l0 k x0 x1 x8 x9 (wrap64 ((IntKind.u64.wrap (wrap64 (x9 + x10))) / 2))))) else (none)) else (none)) else (if x9 < x8 then (if 0 ≤ x9 then (if x9 < (x0.length : Int) then ((impl_Doc_find_1.f ((rd_T113 x0 x9).f0) ((rd_T113 x0 x9).f1) ((rd_T113 x0 x9).f2) ((rd_T113 x0 x9).f3) ((rd_T113 x0 x9).f4) x1).bind fun t395 => (some (x9, (t395 == 0)))) else (none)) else (none)) else (some (x9, false)))
def slices_BinarySearchFunc_impl_Node_impl_Node_int_at_impl_Doc_find_1.f (k : Nat) (l0 : List (S113)) (a1 : Int)  : Option (Int × Bool) := slices_BinarySearchFunc_impl_Node_impl_Node_int_at_impl_Doc_find_1.l0 k l0 a1 (l0.length : Int) 0 (l0.length : Int)
theorem slices_BinarySearchFunc_impl_Node_impl_Node_int_at_impl_Doc_find_1.calls (k : Nat) (A0 : Option Addr) (c0 : Nat) (l0 : List (S113)) (a1 : Int)  (r1 : Int) (r2 : Bool) (w : World) (hr0 : Kd.C k113 w A0 l0.length l0) (hc0 : l0.length ≤ c0) (h : slices_BinarySearchFunc_impl_Node_impl_Node_int_at_impl_Doc_find_1.f k l0 a1 = some (r1, r2)) :
  Calls Tryz.prog 185 #[.slice A0 l0.length c0, .int .i64 a1, .func (.func 186) #[] #[]] w fun e w' => e = .returned (.tuple #[.int .i64 r1, .bool r2]) ∧ Below w.heap.size w w' := by
 have hu113 := Tryz.underlying113
 have HR0 := Aside0.mk hr0
 have HC0 := Aside0.mk hc0
 clear hr0 hc0
 have HB := Aside0.mk (Below.refl w.heap.size w)
 have H : (slices_BinarySearchFunc_impl_Node_impl_Node_int_at_impl_Doc_find_1.l0 k l0 a1 (l0.length : Int) 0 (l0.length : Int)) = some (r1, r2) := h
 clear h
 have H' := Aside0.mk H
 clear H
 go_enter Tryz.func185, Tryz.ntmps185
 go_wp2
 go_loopg [9, 10] k (fun kq v9 v10 w' => ∃ (x9_1 : Int) (x10_1 : Int), v9 = .int .i64 x9_1 ∧ v10 = .int .i64 x10_1 ∧ Aside0 (slices_BinarySearchFunc_impl_Node_impl_Node_int_at_impl_Doc_find_1.l0 kq l0 a1 (l0.length : Int) x9_1 x10_1 = some (r1, r2)) ∧ Aside0 (kq ≤ k) ∧ Aside0 (Below w.heap.size w w'))
 case atStart => exact ⟨(0), ((l0.length : Int)), Xr, Xr, H', Xkr, ⟨Xi⟩⟩
 clear H'
 obtain ⟨x9_1, x10_1, rfl, rfl, HA, HK1, HB⟩ := hrel
 cases gk with | zero => cases HA.out | succ k1 => ?_
 have H := HA.out
 clear HA
 simp only [slices_BinarySearchFunc_impl_Node_impl_Node_int_at_impl_Doc_find_1.l0] at H
 obtain ⟨c4b0, H⟩ | ⟨c4b0, H⟩ := Xit H
 ·obtain ⟨ji5, hji5⟩ : ∃ j_ : Int, (wrap64 ((IntKind.u64.wrap (wrap64 (x9_1 + x10_1))) / 2)) = j_ := ⟨_, rfl⟩
  replace H : (if 0 ≤ (ji5) then (if (ji5) < (l0.length : Int) then ((impl_Doc_find_1.f ((rd_T113 l0 (ji5)).f0) ((rd_T113 l0 (ji5)).f1) ((rd_T113 l0 (ji5)).f2) ((rd_T113 l0 (ji5)).f3) ((rd_T113 l0 (ji5)).f4) a1).bind fun t393 => (if t393 < 0 then (slices_BinarySearchFunc_impl_Node_impl_Node_int_at_impl_Doc_find_1.l0 k1 l0 a1 (l0.length : Int) (wrap64 ((ji5) + 1)) x10_1) else (slices_BinarySearchFunc_impl_Node_impl_Node_int_at_impl_Doc_find_1.l0 k1 l0 a1 (l0.length : Int) x9_1 ji5))) else (none)) else (none)) = some (r1, r2) := by first | (rw [hji5] at H; exact H) | (simp only [hji5] at H ⊢; exact H)
  have hji5w : (IntKind.i64.wrap ((IntKind.u64.wrap (wrap64 (x9_1 + x10_1))) / 2)) = ji5 := (i64_w _).trans hji5
  obtain ⟨c6b0, H⟩ := Xid H
  obtain ⟨c7b0, H⟩ := Xid H
  obtain ⟨t393, A8, H⟩ := Xbi H
  try dsimp only at H
  have HC9 := Aside0.mk H
  clear H
  obtain ⟨ad392, A392_4, c392_4, e392, p392, q392, hx392_0, hx392_1, hx392_2, hx392_3, hx392_4, HC392_4, HR392_4⟩ := at_B113 HR0 (ji5) Xa Xa HB
  cases e392
  go_upto_if 31 with (first | (go_at_call 186; (with_reducible refine (impl_Doc_find_1.calls ((rd_T113 l0 (ji5)).f0) ((rd_T113 l0 (ji5)).f1) ((rd_T113 l0 (ji5)).f2) ((rd_T113 l0 (ji5)).f3) _ _ ((rd_T113 l0 (ji5)).f4) a1 t393 _ ?side1 ?side2 A8.out).mono ?_); (case side1 => exact Xc HR392_4); (case side2 => exact HC392_4.out); rintro e w10 ⟨rfl, hb⟩; replace HB := Aside0.mk (below_step Xi hb); clear hb))
  have H := HC9.out
  clear HC9
  obtain ⟨c11b0, H⟩ | ⟨c11b0, H⟩ := Xit H
  ·(first | rw [c11b0] | (simp only [i64_w, i32_w]; rw [c11b0]) | skip)
   have H' := Aside0.mk H
   clear H
   go_wp2
   go_roundg k1
   case measure => have := HK1.out; omega
   case rel => exact ⟨(wrap64 ((ji5) + 1)), (x10_1), (by first | rfl | (simp; done) | (simp only [← hji5] <;> (first | rfl | simp)) | (simp [*]; done)), Xr, H', Xk1, ⟨Xi⟩⟩
  (first | rw [c11b0] | (simp only [i64_w, i32_w]; rw [c11b0]) | skip)
  have H' := Aside0.mk H
  clear H
  go_wp2
  go_roundg k1
  case measure => have := HK1.out; omega
  case rel => exact ⟨(x9_1), (ji5), Xr, (by first | rfl | (simp; done) | (simp only [← hji5] <;> (first | rfl | simp)) | (simp [*]; done)), H', Xk1, ⟨Xi⟩⟩
 obtain ⟨c12b0, H⟩ | ⟨c12b0, H⟩ := Xit H
 ·obtain ⟨c13b0, H⟩ := Xid H
  obtain ⟨c14b0, H⟩ := Xid H
  obtain ⟨t395, A15, H⟩ := Xbi H
  try dsimp only at H
  simp only [Option.some.injEq, Prod.mk.injEq] at H
  obtain ⟨rfl, rfl⟩ := H
  obtain ⟨ad394, A394_4, c394_4, e394, p394, q394, hx394_0, hx394_1, hx394_2, hx394_3, hx394_4, HC394_4, HR394_4⟩ := at_B113 HR0 x9_1 Xa Xa HB
  cases e394
  go_wp2_with (first | (go_at_call 186; (with_reducible refine (impl_Doc_find_1.calls ((rd_T113 l0 x9_1).f0) ((rd_T113 l0 x9_1).f1) ((rd_T113 l0 x9_1).f2) ((rd_T113 l0 x9_1).f3) _ _ ((rd_T113 l0 x9_1).f4) a1 t395 _ ?side1 ?side2 A15.out).mono ?_); (case side1 => exact Xc HR394_4); (case side2 => exact HC394_4.out); rintro e w16 ⟨rfl, hb⟩; replace HB := Aside0.mk (below_step Xi hb); clear hb))
  go_ret2
  exact ⟨Xe, Xi⟩
 simp only [Option.some.injEq, Prod.mk.injEq] at H
 obtain ⟨rfl, rfl⟩ := H
 go_wp2
 go_ret2
 exact ⟨Xe, Xi⟩
end Go.Proofs.YtahhgjkgfbppeaaGreat.XA
section
namespace Go.Proofs.YtahhgjkgfbppeaaGreat.XA
set_option linter.unusedVariables false
open Go.RowKit Go.Proofs.YtahhgjkgfbppeaaGreatW.PrintWords Go.Proofs.YtahhgjkgfbppeaaGreatW.PrintLast Go.Proofs.YtahhgjkgfbppeaaGreatW.PrintMore
def impl_Doc_find.f (k : Nat) (a0_0 : Int) (a0_1 : Int) (l0_2 : List S113) (a1 : Int) : Option Int :=
  (slices_BinarySearchFunc_impl_Node_impl_Node_int_at_impl_Doc_find_1.f k l0_2 a1).bind fun t => if t.2 = true then (if 0 ≤ t.1 then (if t.1 < (l0_2.length : Int) then some t.1 else none) else none) else some (-1)
set_option maxHeartbeats 8000000 in
set_option maxRecDepth 100000 in
theorem impl_Doc_find.calls (k : Nat) (g0_ : Nat) (a0_0 : Int) (a0_1 : Int) (A0_2 : Option Addr) (c0_2 : Nat) (l0_2 : List (S113)) (a1 : Int) (r : Int) (w : World) (hg0_ : w.heap[g0_]? = some (.cells #[.int .i64 a0_0, .int .i64 a0_1, .slice A0_2 l0_2.length c0_2] 35 (0, 0))) (hr0_2 : Kd.C k113 w A0_2 l0_2.length l0_2) (hc0_2 : l0_2.length ≤ c0_2) (h : impl_Doc_find.f k a0_0 a0_1 l0_2 a1 = some r) :
    Calls Tryz.prog 162 #[.pointer (some ⟨g0_, 0, none⟩), .int .i64 a1] w fun e w' => ∃ p : Option Addr, e = .returned (.pointer p) ∧ (r < 0 → p = none) ∧ (0 ≤ r → ∃ ad, A0_2 = some ad ∧ p = some (ad.add (r.toNat * 5))) ∧ Below w.heap.size w w' := by
  have HR := Aside0.mk hr0_2
  have HC := Aside0.mk hc0_2
  have HB := Aside0.mk (Below.refl w.heap.size w)
  have hcz_2 : w.cell? ⟨g0_, 2, none⟩ = some (.slice A0_2 l0_2.length c0_2) := (blk_cell hg0_ 2).trans rfl
  have hfz_2 := blk_frozen hg0_ 2
  clear hr0_2 hc0_2
  obtain ⟨⟨i, ok⟩, hbs, h⟩ := Option.bind_eq_some_iff.mp h
  have A1 := Aside0.mk hbs
  clear hbs
  cases ok with
  | false =>
    obtain rfl : -1 = r := by simpa using h
    clear h
    go_enter Tryz.func162, Tryz.ntmps162
    go_wp2_with (first | ((with_reducible refine gate_callee (f := 185) rfl ?_); refine goesL_ (some 13) rfl rfl Tryz.func185 (by kernel_rfl) rfl #[.slice A0_2 l0_2.length c0_2, .int .i64 a1, .func (.func 186) #[] #[]] rfl (by (try simp only [List.map_toArray, List.map_cons, List.map_nil]); first | done | rfl) ?_; (with_reducible refine (slices_BinarySearchFunc_impl_Node_impl_Node_int_at_impl_Doc_find_1.calls k _ _ l0_2 a1 i false _ ?side1 ?side2 A1.out).mono ?_); (case side1 => exact HR.out); (case side2 => exact HC.out); rintro e w2 ⟨rfl, hb⟩; refine ⟨_, rfl, ?_⟩))
    go_ret
    exact ⟨none, by first | rfl | simp, fun _ => rfl, fun h0 => absurd h0 (by decide), hb⟩
  | true =>
    have h0 : 0 ≤ i ∧ i < (l0_2.length : Int) ∧ i = r := by
      simp only [if_true] at h
      by_cases p : 0 ≤ i
      · rw [if_pos p] at h
        by_cases q : i < (l0_2.length : Int)
        · rw [if_pos q] at h; exact ⟨p, q, Option.some.inj h⟩
        · rw [if_neg q] at h; cases h
      · rw [if_neg p] at h; cases h
    obtain ⟨p0, q0, rfl⟩ := h0
    clear h
    obtain ⟨ad, hA⟩ : ∃ ad, A0_2 = some ad := by
      obtain ⟨ad, _, _, e, _⟩ := at_T113 HR.out i p0 q0
      exact ⟨ad, e⟩
    subst hA
    have p1 := eq_true p0
    have q1 := eq_true q0
    go_enter Tryz.func162, Tryz.ntmps162
    go_wp2_with (first | ((with_reducible refine gate_callee (f := 185) rfl ?_); refine goesL_ (some 13) rfl rfl Tryz.func185 (by kernel_rfl) rfl #[.slice (some ad) l0_2.length c0_2, .int .i64 a1, .func (.func 186) #[] #[]] rfl (by (try simp only [List.map_toArray, List.map_cons, List.map_nil]); first | done | rfl) ?_; (with_reducible refine (slices_BinarySearchFunc_impl_Node_impl_Node_int_at_impl_Doc_find_1.calls k _ _ l0_2 a1 i true _ ?side1 ?side2 A1.out).mono ?_); (case side1 => exact HR.out); (case side2 => exact HC.out); rintro e w2 ⟨rfl, hb⟩; refine ⟨_, rfl, ?_⟩; have hczw := (hb.cell (World.block_lt_of_cell? w _ hcz_2)).trans hcz_2))
    go_ret
    exact ⟨_, by first | rfl | simp, fun h0 => absurd p0 (by omega), fun _ => ⟨ad, rfl, rfl⟩, hb⟩
end Go.Proofs.YtahhgjkgfbppeaaGreat.XA
end
namespace Go.Proofs.YtahhgjkgfbppeaaGreat.XA
open Go.RowKit Go.Proofs.YtahhgjkgfbppeaaGreatW.PrintWords Go.Proofs.YtahhgjkgfbppeaaGreatW.PrintLast Go.Proofs.YtahhgjkgfbppeaaGreatW.PrintMore XW
attribute [local go_sem] max2_int min2_int max_two min_two max_three min_three max_four min_four   -- for this text's walks alone
set_option linter.unusedVariables false
set_option linter.unusedSimpArgs false
set_option maxHeartbeats 8000000
set_option maxRecDepth 100000
def impl_Doc_has.f (k : Nat) (a0_0 : Int) (a0_1 : Int) (l0_2 : List (S113)) (a1 : Int) : Option (Bool) := (impl_Doc_find.f k a0_0 a0_1 l0_2 a1).bind fun t399 => (if t399 < 0 then (some false) else (some true))
theorem impl_Doc_has.calls (k : Nat) (g0_ : Nat) (a0_0 : Int) (a0_1 : Int) (A0_2 : Option Addr) (c0_2 : Nat) (l0_2 : List (S113)) (a1 : Int) (r : Bool) (w : World) (hg0_ : w.heap[g0_]? = some (.cells #[.int .i64 a0_0, .int .i64 a0_1, .slice A0_2 l0_2.length c0_2] 35 (0, 0))) (hr0_2 : Kd.C k113 w A0_2 l0_2.length l0_2) (hc0_2 : l0_2.length ≤ c0_2) (h : impl_Doc_has.f k a0_0 a0_1 l0_2 a1 = some r) :
  Calls Tryz.prog 125 #[.pointer (some ⟨g0_, 0, none⟩), .int .i64 a1] w fun e w' => e = .returned (.bool r) ∧ Below w.heap.size w w' := by
 have HR0_2 := Aside0.mk hr0_2
 have HC0_2 := Aside0.mk hc0_2
 clear hr0_2 hc0_2
 have BK0 := Aside0.mk hg0_
 clear hg0_
 have HB := Aside0.mk (Below.refl w.heap.size w)
 have H : ((impl_Doc_find.f k a0_0 a0_1 l0_2 a1).bind fun t399 => (if t399 < 0 then (some false) else (some true))) = some r := h
 clear h
 obtain ⟨t399, A3, H⟩ := Xbi H
 try dsimp only at H
 obtain ⟨c4b0, H⟩ | ⟨c4b0, H⟩ := Xit H
 ·obtain rfl := Option.some.inj H
  go_enter Tryz.func125, Tryz.ntmps125
  go_wp2_with (first | ((with_reducible refine gate_callee (f := 162) rfl ?_); refine Xgo 7 Tryz.func162 #[.pointer (some ⟨g0_, 0, none⟩), .int .i64 a1] ?_; (with_reducible refine (impl_Doc_find.calls k g0_ a0_0 a0_1 A0_2 c0_2 l0_2 a1 t399 _ ?side1 ?side2 ?side3 A3.out).mono ?_); (case side1 => exact BK0.out); (case side2 => repeat (first | exact HR0_2.out | (with_reducible first | refine Kd.C_alloc ?_ _ | refine Kd.C_drewN ?_ _ | refine Kd.C_drew ?_))); (case side3 => exact HC0_2.out); rintro e w5 ⟨pF, rfl, hpn, hps, hb⟩; refine ⟨_, rfl, ?_⟩; obtain rfl := hpn (of_decide_eq_true Xa); clear hps; replace BK0 := Xbb BK0 hb; replace HB := Aside0.mk (below_step Xi hb); clear hb))
  go_ret
  exact ⟨Xe, Xi⟩
 obtain rfl := Option.some.inj H
 go_enter Tryz.func125, Tryz.ntmps125
 go_wp2_with (first | ((with_reducible refine gate_callee (f := 162) rfl ?_); refine Xgo 7 Tryz.func162 #[.pointer (some ⟨g0_, 0, none⟩), .int .i64 a1] ?_; (with_reducible refine (impl_Doc_find.calls k g0_ a0_0 a0_1 A0_2 c0_2 l0_2 a1 t399 _ ?side1 ?side2 ?side3 A3.out).mono ?_); (case side1 => exact BK0.out); (case side2 => repeat (first | exact HR0_2.out | (with_reducible first | refine Kd.C_alloc ?_ _ | refine Kd.C_drewN ?_ _ | refine Kd.C_drew ?_))); (case side3 => exact HC0_2.out); rintro e w6 ⟨pF, rfl, hpn, hps, hb⟩; refine ⟨_, rfl, ?_⟩; obtain ⟨adf7, hae, rfl⟩ := hps (Int.not_lt.mp (of_decide_eq_false Xa)); clear hpn; cases hae; replace BK0 := Xbb BK0 hb; replace HB := Aside0.mk (below_step Xi hb); clear hb))
 go_ret
 exact ⟨Xe, Xi⟩
mutual
def impl_Doc_depth.l0 : Nat → Int → Int → List Int → Int → Int → Int → Int → List (S113) → Option (Int)
 | 0, _, _, _, _, _, _, _, _ => none
 | k + 1, x2, x7, x17, x18, x19, x1000, x1001, x1002 => if x19 < x18 then (if 0 ≤ x19 then (if x19 < (x17.length : Int) then ((impl_Doc_depth.f k x1000 x1001 x1002 (rd x17 x19) (wrap64 (x2 + 1))).bind fun t403 => (impl_Doc_depth.l0 k x2 (mx x7 t403) x17 x18 (wrap64 (x19 + 1)) x1000 x1001 x1002)) else (none)) else (none)) else (some (wrap64 (x7 + 1)))
def impl_Doc_depth.f : Nat → Int → Int → List (S113) → Int → Int → Option (Int)
 | 0, _, _, _, _, _ => none
 | k + 1, a0_0, a0_1, l0_2, a1, a2 => if a2 > 6 then (some 0) else ((impl_Doc_find.f k a0_0 a0_1 l0_2 a1).bind fun t400 => (if t400 < 0 then (none) else (if 0 ≤ t400 then (if t400 < (l0_2.length : Int) then (impl_Doc_depth.l0 k a2 0 ((rd_T113 l0_2 t400).f4) (((rd_T113 l0_2 t400).f4).length : Int) 0 a0_0 a0_1 l0_2) else (none)) else (none))))
end
theorem impl_Doc_depth.calls (k : Nat) : ∀ (g0_ : Nat) (a0_0 : Int) (a0_1 : Int) (A0_2 : Option Addr) (c0_2 : Nat) (l0_2 : List (S113)) (a1 : Int) (a2 : Int) (r : Int) (w : World) (hg0_ : w.heap[g0_]? = some (.cells #[.int .i64 a0_0, .int .i64 a0_1, .slice A0_2 l0_2.length c0_2] 35 (0, 0))) (hr0_2 : Kd.C k113 w A0_2 l0_2.length l0_2) (hc0_2 : l0_2.length ≤ c0_2) (h : impl_Doc_depth.f k a0_0 a0_1 l0_2 a1 a2 = some r),
  Calls Tryz.prog 163 #[.pointer (some ⟨g0_, 0, none⟩), .int .i64 a1, .int .i64 a2] w fun e w' => e = .returned (.int .i64 r) ∧ Below w.heap.size w w' := by
 induction k using Nat.strongRecOn with
 | _ k ih =>
 intro g0_ a0_0 a0_1 A0_2 c0_2 l0_2 a1 a2 r w hg0_ hr0_2 hc0_2 h
 cases k with
 | zero => exact absurd h (by simp [impl_Doc_depth.f])
 | succ k =>
 simp only [impl_Doc_depth.f] at h
 have HR0_2 := Aside0.mk hr0_2
 have HC0_2 := Aside0.mk hc0_2
 clear hr0_2 hc0_2
 have BK0 := Aside0.mk hg0_
 clear hg0_
 have HB := Aside0.mk (Below.refl w.heap.size w)
 have H : (if a2 > 6 then (some 0) else ((impl_Doc_find.f k a0_0 a0_1 l0_2 a1).bind fun t400 => (if t400 < 0 then (none) else (if 0 ≤ t400 then (if t400 < (l0_2.length : Int) then (impl_Doc_depth.l0 k a2 0 ((rd_T113 l0_2 t400).f4) (((rd_T113 l0_2 t400).f4).length : Int) 0 a0_0 a0_1 l0_2) else (none)) else (none))))) = some r := h
 clear h
 obtain ⟨c4, H⟩ | ⟨c4, H⟩ := Xiu H
 ·have c4b0 : decide (6 < a2) = true := decide_eq_true c4
  clear c4
  obtain rfl := Option.some.inj H
  go_enter Tryz.func163, Tryz.ntmps163
  go_wp2
  go_ret
  exact ⟨Xe, Xi⟩
 have c4b0 : decide (6 < a2) = false := decide_eq_false c4
 clear c4
 obtain ⟨t400, A5, H⟩ := Xbi H
 try dsimp only at H
 obtain ⟨c6b0, H⟩ | ⟨c6b0, H⟩ := Xit H
 ·exact absurd H (by simp)
 obtain ⟨c7, H⟩ | ⟨c7, H⟩ := Xiu H
 ·have c7b0 : decide (0 ≤ t400) = true := decide_eq_true c7
  clear c7
  obtain ⟨c8b0, H⟩ := Xid H
  have H' := Aside0.mk H
  clear H
  go_enter Tryz.func163, Tryz.ntmps163
  go_wp2_with (first | ((with_reducible refine gate_callee (f := 162) rfl ?_); refine Xgo 14 Tryz.func162 #[.pointer (some ⟨g0_, 0, none⟩), .int .i64 a1] ?_; (with_reducible refine (impl_Doc_find.calls k g0_ a0_0 a0_1 A0_2 c0_2 l0_2 a1 t400 _ ?side1 ?side2 ?side3 A5.out).mono ?_); (case side1 => exact BK0.out); (case side2 => repeat (first | exact HR0_2.out | (with_reducible first | refine Kd.C_alloc ?_ _ | refine Kd.C_drewN ?_ _ | refine Kd.C_drew ?_))); (case side3 => exact HC0_2.out); rintro e w9 ⟨pF, rfl, hpn, hps, hb⟩; refine ⟨_, rfl, ?_⟩; obtain ⟨adf10, hae, rfl⟩ := hps (Int.not_lt.mp (of_decide_eq_false Xa)); clear hpn; cases hae; replace BK0 := Xbb BK0 hb; replace HB := Aside0.mk (below_step Xi hb); clear hb; have p401 : 0 ≤ (t400 : Int) := of_decide_eq_true Xa; have q401 : t400 < (l0_2.length : Int) := of_decide_eq_true Xa; obtain ⟨ad401, A401_4, c401_4, e401, hx401_0, hx401_1, hx401_2, hx401_3, hx401_4, hl401_4, hi401_4⟩ := at_T113 HR0_2.out t400 p401 q401; obtain rfl : adf10 = ad401 := (by injection e401); replace hx401_0 := Xm HB hx401_0; replace hx401_1 := Xm HB hx401_1; replace hx401_2 := Xm HB hx401_2; replace hx401_3 := Xm HB hx401_3; replace hx401_4 := Xm HB hx401_4; have HR401_4 := Aside0.mk hi401_4; have HC401_4 := Aside0.mk hl401_4; clear hi401_4 hl401_4; replace p401 := eq_true p401; replace q401 := eq_true q401))
  go_loopg [7, 19] k (fun kq v7 v19 w' => ∃ (x7_1 : Int) (x19_1 : Int), v7 = .int .i64 x7_1 ∧ v19 = .int .i64 x19_1 ∧ Aside0 (impl_Doc_depth.l0 kq a2 x7_1 ((rd_T113 l0_2 t400).f4) (((rd_T113 l0_2 t400).f4).length : Int) x19_1 a0_0 a0_1 l0_2 = some r) ∧ Aside0 (kq ≤ k) ∧ Aside0 (w'.heap[g0_]? = some (.cells #[.int .i64 a0_0, .int .i64 a0_1, (.slice (some adf10) l0_2.length c0_2)] 35 (0, 0))) ∧ Aside0 (Below w.heap.size w w'))
  case atStart => exact ⟨(0), (0), Xr, Xr, H', Xkr, BK0, ⟨Xi⟩⟩
  clear H'
  (try clear c4); (try clear c4b0); (try clear c6); (try clear c6b0); (try clear c7); (try clear c7b0); (try clear c8); (try clear c8b0); (try clear hx401_0); (try clear hx401_1); (try clear hx401_2); (try clear hx401_3); (try clear hx401_4); (try clear p401); (try clear q401)
  obtain ⟨x7_1, x19_1, rfl, rfl, HA, HK1, BK0, HB⟩ := hrel
  cases gk with | zero => cases HA.out | succ k1 => ?_
  have H := HA.out
  clear HA
  simp only [impl_Doc_depth.l0] at H
  obtain ⟨c11b0, H⟩ | ⟨c11b0, H⟩ := Xit H
  ·obtain ⟨c12b0, H⟩ := Xid H
   obtain ⟨c13b0, H⟩ := Xid H
   obtain ⟨t403, A14, H⟩ := Xbi H
   try dsimp only at H
   obtain ⟨ji15, hji15⟩ : ∃ j_ : Int, (mx x7_1 t403) = j_ := ⟨_, rfl⟩
   replace H : (impl_Doc_depth.l0 k1 a2 ji15 ((rd_T113 l0_2 t400).f4) (((rd_T113 l0_2 t400).f4).length : Int) (wrap64 (x19_1 + 1)) a0_0 a0_1 l0_2) = some r := by first | (rw [hji15] at H; exact H) | (simp only [hji15] at H ⊢; exact H)
   (try rw [hji15] at A14)
   have hji15_ : (if x7_1 < t403 then t403 else x7_1) = ji15 := hji15
   have H' := Aside0.mk H
   clear H
   have p402 : 0 ≤ (x19_1 : Int) := of_decide_eq_true Xa
   have q402 : x19_1 < (((rd_T113 l0_2 t400).f4).length : Int) := of_decide_eq_true Xa
   obtain ⟨ad402, e402, hx402_0⟩ := Kd.at_int HR401_4.out x19_1 p402 q402
   cases e402
   replace hx402_0 := Xm HB hx402_0
   replace p402 := eq_true p402
   replace q402 := eq_true q402
   go_wp2_with (first | ((with_reducible refine gate_callee (f := 163) rfl ?_); refine Xgo 28 Tryz.func163 #[.pointer (some ⟨g0_, 0, none⟩), .int .i64 (rd ((rd_T113 l0_2 t400).f4) x19_1), .int .i64 (wrap64 (a2 + 1))] ?_; (with_reducible refine (ih k1 (by have := HK1.out; omega) g0_ a0_0 a0_1 (some adf10) c0_2 l0_2 (rd ((rd_T113 l0_2 t400).f4) x19_1) (wrap64 (a2 + 1)) t403 _ ?side1 ?side2 ?side3 A14.out).mono ?_); (case side1 => exact BK0.out); (case side2 => exact Xc HR0_2); (case side3 => exact HC0_2.out); rintro e w16 ⟨rfl, hb⟩; refine ⟨_, rfl, ?_⟩; replace BK0 := Xbb BK0 hb; replace HB := Aside0.mk (below_step Xi hb); clear hb))
   go_roundg k1
   case measure => have := HK1.out; omega
   case rel => exact ⟨(ji15), (wrap64 (x19_1 + 1)), (by first | rfl | (simp; done) | (simp only [← hji15] <;> (first | rfl | simp)) | (simp [*]; done)), Xr, H', Xk1, BK0, ⟨Xi⟩⟩
  obtain rfl := Option.some.inj H
  go_wp2
  go_ret
  exact ⟨Xe, Xi⟩
 exact absurd H (by simp)
def impl_Doc_isDeep.f (k : Nat) (a0_0 : Int) (a0_1 : Int) (l0_2 : List (S113)) : Option (Bool) := (impl_Doc_depth.f k a0_0 a0_1 l0_2 a0_0 0).bind fun t404 => (some (decide (t404 > 6)))
theorem impl_Doc_isDeep.calls (k : Nat) (g0_ : Nat) (a0_0 : Int) (a0_1 : Int) (A0_2 : Option Addr) (c0_2 : Nat) (l0_2 : List (S113)) (r : Bool) (w : World) (hg0_ : w.heap[g0_]? = some (.cells #[.int .i64 a0_0, .int .i64 a0_1, .slice A0_2 l0_2.length c0_2] 35 (0, 0))) (hr0_2 : Kd.C k113 w A0_2 l0_2.length l0_2) (hc0_2 : l0_2.length ≤ c0_2) (h : impl_Doc_isDeep.f k a0_0 a0_1 l0_2 = some r) :
  Calls Tryz.prog 126 #[.pointer (some ⟨g0_, 0, none⟩)] w fun e w' => e = .returned (.bool r) ∧ Below w.heap.size w w' := by
 have HR0_2 := Aside0.mk hr0_2
 have HC0_2 := Aside0.mk hc0_2
 clear hr0_2 hc0_2
 have BK0 := Aside0.mk hg0_
 clear hg0_
 have HB := Aside0.mk (Below.refl w.heap.size w)
 have H : ((impl_Doc_depth.f k a0_0 a0_1 l0_2 a0_0 0).bind fun t404 => (some (decide (t404 > 6)))) = some r := h
 clear h
 obtain ⟨t404, A2, H⟩ := Xbi H
 try dsimp only at H
 obtain rfl := Option.some.inj H
 obtain ⟨hcz3_0, hcz3_1, hcz3_2⟩ := Xc3 BK0
 go_enter Tryz.func126, Tryz.ntmps126
 go_wp2_with (first | ((with_reducible refine gate_callee (f := 163) rfl ?_); refine Xgo 8 Tryz.func163 #[.pointer (some ⟨g0_, 0, none⟩), .int .i64 a0_0, .int .i64 0] ?_; (with_reducible refine (impl_Doc_depth.calls k g0_ a0_0 a0_1 A0_2 c0_2 l0_2 a0_0 0 t404 _ ?side1 ?side2 ?side3 A2.out).mono ?_); (case side1 => exact BK0.out); (case side2 => repeat (first | exact HR0_2.out | (with_reducible first | refine Kd.C_alloc ?_ _ | refine Kd.C_drewN ?_ _ | refine Kd.C_drew ?_))); (case side3 => exact HC0_2.out); rintro e w4 ⟨rfl, hb⟩; refine ⟨_, rfl, ?_⟩; replace BK0 := Xbb BK0 hb; replace HB := Aside0.mk (below_step Xi hb); clear hb))
 go_ret
 exact ⟨Xe, Xi⟩
mutual
def impl_Doc_order.l0 : Nat → List Int → List Int → Int → Int → Int → Int → List (S113) → Option (List Int)
 | 0, _, _, _, _, _, _, _ => none
 | k + 1, x1, x18, x19, x20, x1000, x1001, x1002 => if x20 < x19 then (if 0 ≤ x20 then (if x20 < (x18.length : Int) then ((impl_Doc_order.f k x1000 x1001 x1002 x1 (rd x18 x20)).bind fun t411 => (impl_Doc_order.l0 k t411 x18 x19 (wrap64 (x20 + 1)) x1000 x1001 x1002)) else (none)) else (none)) else (some x1)
def impl_Doc_order.f : Nat → Int → Int → List (S113) → List Int → Int → Option (List Int)
 | 0, _, _, _, _, _ => none
 | k + 1, a0_0, a0_1, l0_2, l1, a2 => if l1.length < 17592186044416 then ((impl_Doc_find.f k a0_0 a0_1 l0_2 a2).bind fun t408 => (if t408 < 0 then (none) else (if 0 ≤ t408 then (if t408 < (l0_2.length : Int) then (impl_Doc_order.l0 k (l1 ++ [a2]) ((rd_T113 l0_2 t408).f4) (((rd_T113 l0_2 t408).f4).length : Int) 0 a0_0 a0_1 l0_2) else (none)) else (none)))) else (none)
end
theorem impl_Doc_order.calls (k : Nat) : ∀ (g0_ : Nat) (a0_0 : Int) (a0_1 : Int) (A0_2 : Option Addr) (c0_2 : Nat) (l0_2 : List (S113)) (P1_ : Nat → Prop) (u9000_ : Value) (l1 : List Int) (a2 : Int) (r : List Int) (w0 w : World) (hB : Below w0.heap.size w0 w) (hg0_ : w.heap[g0_]? = some (.cells #[.int .i64 a0_0, .int .i64 a0_1, .slice A0_2 l0_2.length c0_2] 35 (0, 0))) (hr0_2 : ∀ W_, Kept w W_ (fun k_ => P1_ k_) → Kd.C k113 W_ A0_2 l0_2.length l0_2) (hc0_2 : l0_2.length ≤ c0_2) (ho1 : Kd.R (Kd.int .i64) 3 w w0.heap.size P1_ u9000_ l1) (h : impl_Doc_order.f k a0_0 a0_1 l0_2 l1 a2 = some r),
  Calls Tryz.prog 127 #[.pointer (some ⟨g0_, 0, none⟩), u9000_, .int .i64 a2] w fun e w' => ∃ v0_ : Value, e = .returned (v0_) ∧ Kd.R (Kd.int .i64) 3 w' w0.heap.size (fun k_ => (P1_ k_ ∨ w.heap.size ≤ k_)) v0_ r ∧ Below w0.heap.size w0 w' ∧ Kept w w' (fun k_ => P1_ k_) := by
 induction k using Nat.strongRecOn with
 | _ k ih =>
 intro g0_ a0_0 a0_1 A0_2 c0_2 l0_2 P1_ u9000_ l1 a2 r w0 w hB hg0_ hr0_2 hc0_2 ho1 h
 cases k with
 | zero => exact absurd h (by simp [impl_Doc_order.f])
 | succ k =>
 simp only [impl_Doc_order.f] at h
 have HR0_2 := Aside0.mk hr0_2
 have HC0_2 := Aside0.mk hc0_2
 clear hr0_2 hc0_2
 have HO1 := Aside0.mk (show Kd.R (Kd.int .i64) 3 w w0.heap.size (fun k_ => (P1_ k_ ∨ w.heap.size ≤ k_)) u9000_ l1 from Kd.R_mono ho1 (fun k_ hk => (.inl hk)))
 have BK0 := Aside0.mk hg0_
 clear hg0_
 have HK := Aside0.mk (Kept.refl w (fun k_ => P1_ k_))
 have HW0 := Aside0.mk hB.size
 have HB := Aside0.mk hB
 clear hB
 have H : (if l1.length < 17592186044416 then ((impl_Doc_find.f k a0_0 a0_1 l0_2 a2).bind fun t408 => (if t408 < 0 then (none) else (if 0 ≤ t408 then (if t408 < (l0_2.length : Int) then (impl_Doc_order.l0 k (l1 ++ [a2]) ((rd_T113 l0_2 t408).f4) (((rd_T113 l0_2 t408).f4).length : Int) 0 a0_0 a0_1 l0_2) else (none)) else (none)))) else (none)) = some r := h
 clear h
 obtain ⟨c4, H⟩ | ⟨c4, H⟩ := Xiu H
 ·have LMc4 := Aside0.mk c4
  clear c4
  obtain ⟨y405, hy405⟩ : ∃ y_ : List Int, y_ = (l1 ++ [a2]) := ⟨_, rfl⟩
  replace H : ((impl_Doc_find.f k a0_0 a0_1 l0_2 a2).bind fun t408 => (if t408 < 0 then (none) else (if 0 ≤ t408 then (if t408 < (l0_2.length : Int) then (impl_Doc_order.l0 k y405 ((rd_T113 l0_2 t408).f4) (((rd_T113 l0_2 t408).f4).length : Int) 0 a0_0 a0_1 l0_2) else (none)) else (none)))) = some r := by first | (rw [hy405]; with_reducible exact H) | (have H2_ := (Option.bind_some _ _).symm.trans H; rw [hy405]; with_reducible exact H2_) | (have H2_ := (Option.bind_some _ _).symm.trans H; with_reducible exact H2_) | with_reducible exact H | (rw [hy405]; exact H) | exact H
  have Ny405 := Aside0.mk hy405
  clear hy405
  obtain ⟨t408, A5, H⟩ := Xbi H
  try dsimp only at H
  obtain ⟨c6b0, H⟩ | ⟨c6b0, H⟩ := Xit H
  ·exact absurd H (by simp)
  obtain ⟨c7b0, H⟩ := Xid H
  obtain ⟨c8b0, H⟩ := Xid H
  have H' := Aside0.mk H
  clear H
  go_enter Tryz.func127, Tryz.ntmps127
  go_wp2_with (first | ((with_reducible refine gate_builtin (b := .append) (xs := #[.tmp 9, .tmp 11]) rfl ?_); at_builtin; refine Kd.R_append (Kd.int .i64) (w0 := w0) w0.heap.size rfl (.tmp 9) (.tmp 11) 30 3 (.int .i64 0) 8 rfl Tryz.underlying30 info3 rfl (by decide) (by omega) u9000_ l1 a2 [.int .i64 a2] (fun k_ => (P1_ k_ ∨ w.heap.size ≤ k_)) (fun _ => False) rfl rfl ?aP (fun _ hk => hk.elim) ?aF ?aO ?aB ?aS ?aL ?_; (case aP => exact rfl); (case aB => exact Xi); (case aF => exact (fun k_ hk => (.inr (Nat.le_trans (by first | exact HK.out.1 | exact (show Kept w _ (fun k_ => P1_ k_) from by repeat first | (with_reducible first | exact HK.out | apply Kept.alloc | apply Kept.drewN | apply Kept.drew | refine Kept.setCell ?_ (.inr GW0.out) _) | exact HK.out).1) hk)))); (case aO => exact (Xq HO1)); (case aS => exact (below_size Xi)); (case aL => have := LMc4.out; omega); intro v406 w9 ho hb hg hat; rw [← Ny405.out] at ho; replace BK0 := Aside0.mk (blk_grown (g := g0_) (o := .cells #[.int .i64 a0_0, .int .i64 a0_1, .slice A0_2 l0_2.length c0_2] 35 (0, 0)) (Xq' BK0) hg (Kd.R_ne HO1.out BK0.out (by decide))); replace HB := Aside0.mk (hb); replace HK := Aside0.mk (Kept.of_grown (S := (fun k_ => P1_ k_)) hg (by repeat first | (with_reducible first | exact HK.out | apply Kept.alloc | apply Kept.drewN | apply Kept.drew | refine Kept.setCell ?_ (.inr GW0.out) _) | exact HK.out) (fun k_ e_ => (HO1.out.1 k_ e_))); have HO407 := Aside0.mk (ho); clear HO1; clear ho hb hg hat) | ((with_reducible refine gate_callee (f := 162) rfl ?_); refine Xgo 15 Tryz.func162 #[.pointer (some ⟨g0_, 0, none⟩), .int .i64 a2] ?_; (with_reducible refine (impl_Doc_find.calls k g0_ a0_0 a0_1 A0_2 c0_2 l0_2 a2 t408 _ ?side1 ?side2 ?side3 A5.out).mono ?_); (case side1 => exact (Xq' BK0)); (case side2 => exact Kd.C_kept_now HR0_2.out (by repeat first | (with_reducible first | exact HK.out | apply Kept.alloc | apply Kept.drewN | apply Kept.drew | refine Kept.setCell ?_ (.inr GW0.out) _) | exact HK.out)); (case side3 => exact HC0_2.out); rintro e w10 ⟨pF, rfl, hpn, hps, hb⟩; refine ⟨_, rfl, ?_⟩; obtain ⟨adf11, hae, rfl⟩ := hps (Int.not_lt.mp (of_decide_eq_false Xa)); clear hpn; cases hae; replace HO407 := Aside0.mk (Kd.R_below (Xq HO407) hb); replace BK0 := Xbb BK0 hb; replace HK := Aside0.mk (Kept.below (S := (fun k_ => P1_ k_)) (by repeat first | (with_reducible first | exact HK.out | apply Kept.alloc | apply Kept.drewN | apply Kept.drew | refine Kept.setCell ?_ (.inr GW0.out) _) | exact HK.out) hb); replace HB := Aside0.mk (below_step Xi hb); clear hb; have p409 : 0 ≤ (t408 : Int) := of_decide_eq_true Xa; have q409 : t408 < (l0_2.length : Int) := of_decide_eq_true Xa; obtain ⟨ad409, A409_4, c409_4, e409, hx409_0, hx409_1, hx409_2, hx409_3, hx409_4, hl409_4, hi409_4⟩ := at_T113 (Kd.C_kept_now HR0_2.out HK.out) t408 p409 q409; obtain rfl : adf11 = ad409 := (by injection e409); obtain ⟨af_, Af_, cf_, ef_, ff_, lf_, gf_⟩ := footT113_4 HR0_2.out t408 p409 q409; obtain rfl : adf11 = af_ := (by first | (injection ef_) | (injection ef_.symm)); have ff1_ := (ff_ _ HK.out).symm.trans hx409_4; injection (Option.some.inj ff1_) with ha_ hn_ hc_; rw [ha_] at gf_; clear hi409_4 ff1_ ff_ lf_ ha_ hn_ hc_; have hi409_4 := gf_; clear gf_ ef_; have HR409_4 := Aside0.mk hi409_4; have HC409_4 := Aside0.mk hl409_4; clear hi409_4 hl409_4; replace p409 := eq_true p409; replace q409 := eq_true q409))
  go_loopg [1, 20] k (fun kq v1 v20 w' => ∃ (x1_1 : List Int) (x20_1 : Int), v20 = .int .i64 x20_1 ∧ Aside0 (impl_Doc_order.l0 kq x1_1 ((rd_T113 l0_2 t408).f4) (((rd_T113 l0_2 t408).f4).length : Int) x20_1 a0_0 a0_1 l0_2 = some r) ∧ Aside0 (kq ≤ k) ∧ Aside0 (Kd.R (Kd.int .i64) 3 w' w0.heap.size (fun k_ => (P1_ k_ ∨ w.heap.size ≤ k_)) v1 x1_1) ∧ Aside0 (w'.heap[g0_]? = some (.cells #[.int .i64 a0_0, .int .i64 a0_1, (.slice (some adf11) l0_2.length c0_2)] 35 (0, 0))) ∧ Aside0 (Kept w w' (fun k_ => P1_ k_)) ∧ Aside0 (Below w0.heap.size w0 w'))
  case atStart => exact ⟨(y405), (0), Xr, H', Xkr, (Xp' HO407), (Xp BK0), ⟨by repeat first | (with_reducible first | exact HK.out | apply Kept.alloc | apply Kept.drewN | apply Kept.drew | refine Kept.setCell ?_ (.inr GW0.out) _) | exact HK.out⟩, ⟨Xi⟩⟩
  clear H'
  (try clear c4); (try clear c6); (try clear c6b0); (try clear c7); (try clear c7b0); (try clear c8); (try clear c8b0); (try clear hx409_0); (try clear hx409_1); (try clear hx409_2); (try clear hx409_3); (try clear hx409_4); (try clear p409); (try clear q409)
  obtain ⟨x1_1, x20_1, rfl, HA, HK1, HO_1, BK0, HK, HB⟩ := hrel
  cases gk with | zero => cases HA.out | succ k1 => ?_
  have H := HA.out
  clear HA
  simp only [impl_Doc_order.l0] at H
  obtain ⟨c12b0, H⟩ | ⟨c12b0, H⟩ := Xit H
  ·obtain ⟨c13b0, H⟩ := Xid H
   obtain ⟨c14b0, H⟩ := Xid H
   obtain ⟨t411, A15, H⟩ := Xbi H
   try dsimp only at H
   have H' := Aside0.mk H
   clear H
   have p410 : 0 ≤ (x20_1 : Int) := of_decide_eq_true Xa
   have q410 : x20_1 < (((rd_T113 l0_2 t408).f4).length : Int) := of_decide_eq_true Xa
   obtain ⟨ad410, e410, hx410_0⟩ := Kd.at_int (Kd.C_kept_now HR409_4.out HK.out) x20_1 p410 q410
   cases e410
   replace p410 := eq_true p410
   replace q410 := eq_true q410
   obtain ⟨Ao16, co16, eo16⟩ := Kd.R_slice HO_1.out
   subst eo16
   go_wp2_with (first | ((with_reducible refine gate_callee (f := 127) rfl ?_); refine Xgo 27 Tryz.func127 #[.pointer (some ⟨g0_, 0, none⟩), .slice Ao16 x1_1.length co16, .int .i64 (rd ((rd_T113 l0_2 t408).f4) x20_1)] ?_; (with_reducible refine (ih k1 (by have := HK1.out; omega) g0_ a0_0 a0_1 (some adf11) c0_2 l0_2 (fun k_ => some k_ = (.slice Ao16 x1_1.length co16 : Value).ownBlock) (.slice Ao16 x1_1.length co16) x1_1 (rd ((rd_T113 l0_2 t408).f4) x20_1) t411 w0 _ ?side1 ?side2 ?side3 ?side4 ?side5 A15.out).mono ?_); (case side1 => exact Xi); (case side2 => exact (Xq' BK0)); (case side3 => exact Kd.C_kept_call HR0_2.out (by repeat first | (with_reducible first | exact HK.out | apply Kept.alloc | apply Kept.drewN | apply Kept.drew | refine Kept.setCell ?_ (.inr GW0.out) _) | exact HK.out) (fun k_ hs_ => (fun e_ => (HO_1.out.1 k_ e_.symm)) hs_)); (case side4 => exact HC0_2.out); (case side5 => exact Kd.R_tight rfl HO_1.out); rintro e w17 ⟨v412, rfl, ho0, hb, hkp⟩; refine ⟨_, rfl, ?_⟩; replace BK0 := Aside0.mk (blk_kept (Xq' BK0) hkp (fun hs_ => (fun e_ => (Kd.R_ne HO_1.out BK0.out (by decide)) e_) hs_)); have HO413 := Aside0.mk (Kd.R_mono (ok' := fun k_ => (P1_ k_ ∨ w.heap.size ≤ k_)) ho0 (fun k_ hk_ => Or.elim hk_ (fun hs_ => (HO_1.out.1 k_ (hs_).symm)) (fun hn_ => (.inr (Nat.le_trans (by first | exact HK.out.1 | exact (show Kept w _ (fun k_ => P1_ k_) from by repeat first | (with_reducible first | exact HK.out | apply Kept.alloc | apply Kept.drewN | apply Kept.drew | refine Kept.setCell ?_ (.inr GW0.out) _) | exact HK.out).1) hn_))))); replace HK := Aside0.mk (Kept.then_ (S := (fun k_ => P1_ k_)) (by repeat first | (with_reducible first | exact HK.out | apply Kept.alloc | apply Kept.drewN | apply Kept.drew | refine Kept.setCell ?_ (.inr GW0.out) _) | exact HK.out) hkp (fun k_ hs_ => (fun e_ => (HO_1.out.1 k_ e_.symm)) hs_)); replace HB := Aside0.mk (hb); clear HO_1; (try clear hb); (try clear hkp); (try clear ho0)))
   go_roundg k1
   case measure => have := HK1.out; omega
   case rel => exact ⟨(t411), (wrap64 (x20_1 + 1)), Xr, H', Xk1, (Xp' HO413), (Xp BK0), ⟨by repeat first | (with_reducible first | exact HK.out | apply Kept.alloc | apply Kept.drewN | apply Kept.drew | refine Kept.setCell ?_ (.inr GW0.out) _) | exact HK.out⟩, ⟨Xi⟩⟩
  obtain rfl := Option.some.inj H
  go_wp2
  go_ret
  exact ⟨_, Xe, Xq HO_1, Xi, by repeat first | (with_reducible first | exact HK.out | apply Kept.alloc | apply Kept.drewN | apply Kept.drew | refine Kept.setCell ?_ (.inr GW0.out) _) | exact HK.out⟩
 exact absurd H (by simp)
def impl_isMode.f (a0 : Int) (a1 : Int) : Option (Bool) := (impl_within.f a0 a1 5).bind fun t435 => (some t435)
theorem impl_isMode.calls (a0 : Int) (a1 : Int) (r : Bool) (w : World) (h : impl_isMode.f a0 a1 = some r) :
  Calls Tryz.prog 73 #[.int .i64 a0, .int .i64 a1] w fun e w' => e = .returned (.bool r) ∧ Drawn0 w w' := by
 have H : ((impl_within.f a0 a1 5).bind fun t435 => (some t435)) = some r := h
 clear h
 obtain ⟨t435, A3, H⟩ := Xbi H
 try dsimp only at H
 obtain rfl := Option.some.inj H
 go_enter Tryz.func73, Tryz.ntmps73
 go_wp2_with (first | ((with_reducible refine gate_callee (f := 124) rfl ?_); refine Xgo 7 Tryz.func124 #[.int .i64 a0, .int .i64 a1, .int .i64 5] ?_; (with_reducible refine (impl_within.calls a0 a1 5 t435 _ A3.out).mono ?_); rintro e w' ⟨rfl, ⟨nd, rfl⟩⟩; refine ⟨_, rfl, ?_⟩))
 go_ret
 exact ⟨Xr, Xdr⟩
def impl_isSession.f (a0 : Int) : Option (Bool) := (impl_within.f a0 1 999).bind fun t436 => (some t436)
theorem impl_isSession.calls (a0 : Int) (r : Bool) (w : World) (h : impl_isSession.f a0 = some r) :
  Calls Tryz.prog 107 #[.int .i64 a0] w fun e w' => e = .returned (.bool r) ∧ Drawn0 w w' := by
 have H : ((impl_within.f a0 1 999).bind fun t436 => (some t436)) = some r := h
 clear h
 obtain ⟨t436, A2, H⟩ := Xbi H
 try dsimp only at H
 obtain rfl := Option.some.inj H
 go_enter Tryz.func107, Tryz.ntmps107
 go_wp2_with (first | ((with_reducible refine gate_callee (f := 124) rfl ?_); refine Xgo 4 Tryz.func124 #[.int .i64 a0, .int .i64 1, .int .i64 999] ?_; (with_reducible refine (impl_within.calls a0 1 999 t436 _ A2.out).mono ?_); rintro e w' ⟨rfl, ⟨nd, rfl⟩⟩; refine ⟨_, rfl, ?_⟩))
 go_ret
 exact ⟨Xr, Xdr⟩
def impl_Doc_isHold.f (k : Nat) (a0_0 : Int) (a0_1 : Int) (l0_2 : List (S113)) (a1_0 : Int) (a1_1 : Int) (a1_2 : Int) : Option (Bool) := (impl_isSession.f a1_0).bind fun t438 => (if t438 = true then ((impl_Doc_has.f k a0_0 a0_1 l0_2 a1_1).bind fun t439 => (if t439 = true then ((impl_isMode.f a1_2 1).bind fun t440 => (some t440)) else (some false))) else (some false))
theorem impl_Doc_isHold.calls (k : Nat) (g0_ : Nat) (a0_0 : Int) (a0_1 : Int) (A0_2 : Option Addr) (c0_2 : Nat) (l0_2 : List (S113)) (a1_0 : Int) (a1_1 : Int) (a1_2 : Int) (r : Bool) (w : World) (hg0_ : w.heap[g0_]? = some (.cells #[.int .i64 a0_0, .int .i64 a0_1, .slice A0_2 l0_2.length c0_2] 35 (0, 0))) (hr0_2 : Kd.C k113 w A0_2 l0_2.length l0_2) (hc0_2 : l0_2.length ≤ c0_2) (h : impl_Doc_isHold.f k a0_0 a0_1 l0_2 a1_0 a1_1 a1_2 = some r) :
  Calls Tryz.prog 69 #[.pointer (some ⟨g0_, 0, none⟩), .agg #[.int .i64 a1_0, .int .i64 a1_1, .int .i64 a1_2]] w fun e w' => e = .returned (.bool r) ∧ Below w.heap.size w w' := by
 have hu39 := Tryz.underlying39
 have HR0_2 := Aside0.mk hr0_2
 have HC0_2 := Aside0.mk hc0_2
 clear hr0_2 hc0_2
 have BK0 := Aside0.mk hg0_
 clear hg0_
 have HB := Aside0.mk (Below.refl w.heap.size w)
 have H : ((impl_isSession.f a1_0).bind fun t438 => (if t438 = true then ((impl_Doc_has.f k a0_0 a0_1 l0_2 a1_1).bind fun t439 => (if t439 = true then ((impl_isMode.f a1_2 1).bind fun t440 => (some t440)) else (some false))) else (some false))) = some r := h
 clear h
 have HC3 := Aside0.mk H
 clear H
 go_enter Tryz.func69, Tryz.ntmps69
 go_upto_region 1 with (first | ((with_reducible refine gate_dst (N := 3) rfl ?_); refine Xbox 3 #[.int .i64 a1_0, .int .i64 a1_1, .int .i64 a1_2] 39 ?_; intro gb437 hg w4 hbox hb; have BK437 := Aside0.mk (hbox); have GE437 := Xge hg Xi; replace HB := Aside0.mk (below_step Xi hb); have NB0_437 := Xnb hg BK0; have NB437_0 := Xns NB0_437; replace BK0 := Xbb BK0 hb; clear hb hbox hg))
 have H := HC3.out
 clear HC3
 obtain ⟨t438, A5, H⟩ := Xbi H
 try dsimp only at H
 by_cases c6 : t438 = true
 ·subst c6
  try rw [if_pos rfl] at H
  obtain ⟨t439, A7, H⟩ := Xbi H
  try dsimp only at H
  by_cases c8 : t439 = true
  ·subst c8
   try rw [if_pos rfl] at H
   obtain ⟨t440, A9, H⟩ := Xbi H
   try dsimp only at H
   obtain rfl := Option.some.inj H
   have hnb10 := NB437_0.out
   have hnc10 := NB0_437.out
   obtain ⟨hcz11_0, hcz11_1, hcz11_2⟩ := Xc3 BK437
   go_wp2_with (first | ((with_reducible refine gate_callee (f := 107) rfl ?_); refine Xgo 7 Tryz.func107 #[.int .i64 a1_0] ?_; (with_reducible refine (impl_isSession.calls a1_0 true _ A5.out).mono ?_); rintro e w' ⟨rfl, ⟨nd, rfl⟩⟩; refine ⟨_, rfl, ?_⟩) | (go_at_call 125; (with_reducible refine (impl_Doc_has.calls k g0_ a0_0 a0_1 A0_2 c0_2 l0_2 a1_1 true _ ?side1 ?side2 ?side3 A7.out).mono ?_); (case side1 => exact BK0.out); (case side2 => exact Xc HR0_2); (case side3 => exact HC0_2.out); rintro e w12 ⟨rfl, hb⟩; replace BK0 := Xbb BK0 hb; replace BK437 := Xbb BK437 hb; replace HB := Aside0.mk (below_step Xi hb); clear hb; obtain ⟨hcz13_0, hcz13_1, hcz13_2⟩ := Xc3 BK437) | (go_at_call 73; (with_reducible refine (impl_isMode.calls a1_2 1 t440 _ A9.out).mono ?_); rintro e w' ⟨rfl, ⟨nd, rfl⟩⟩))
   go_ret
   exact ⟨Xe, Xi⟩
  replace c8 := Bool.eq_false_iff.mpr c8
  subst c8
  try rw [if_neg (show ¬ (false = true) by decide)] at H
  obtain rfl := Option.some.inj H
  have hnb14 := NB437_0.out
  have hnc14 := NB0_437.out
  obtain ⟨hcz15_0, hcz15_1, hcz15_2⟩ := Xc3 BK437
  go_wp2_with (first | ((with_reducible refine gate_callee (f := 107) rfl ?_); refine Xgo 7 Tryz.func107 #[.int .i64 a1_0] ?_; (with_reducible refine (impl_isSession.calls a1_0 true _ A5.out).mono ?_); rintro e w' ⟨rfl, ⟨nd, rfl⟩⟩; refine ⟨_, rfl, ?_⟩) | (go_at_call 125; (with_reducible refine (impl_Doc_has.calls k g0_ a0_0 a0_1 A0_2 c0_2 l0_2 a1_1 false _ ?side1 ?side2 ?side3 A7.out).mono ?_); (case side1 => exact BK0.out); (case side2 => exact Xc HR0_2); (case side3 => exact HC0_2.out); rintro e w16 ⟨rfl, hb⟩; replace BK0 := Xbb BK0 hb; replace BK437 := Xbb BK437 hb; replace HB := Aside0.mk (below_step Xi hb); clear hb))
  go_ret
  exact ⟨Xe, Xi⟩
 replace c6 := Bool.eq_false_iff.mpr c6
 subst c6
 try rw [if_neg (show ¬ (false = true) by decide)] at H
 obtain rfl := Option.some.inj H
 have hnb17 := NB437_0.out
 have hnc17 := NB0_437.out
 obtain ⟨hcz18_0, hcz18_1, hcz18_2⟩ := Xc3 BK437
 go_wp2_with (first | ((with_reducible refine gate_callee (f := 107) rfl ?_); refine Xgo 7 Tryz.func107 #[.int .i64 a1_0] ?_; (with_reducible refine (impl_isSession.calls a1_0 false _ A5.out).mono ?_); rintro e w' ⟨rfl, ⟨nd, rfl⟩⟩; refine ⟨_, rfl, ?_⟩))
 go_ret
 exact ⟨Xe, Xi⟩
def cmp_Or_int.l0 : Nat → Int → List Int → Int → Int → Option (Int)
 | 0, _, _, _, _ => none
 | k + 1, x3, x6, x7, x8 => if x8 < x7 then (if 0 ≤ x8 then (if x8 < (x6.length : Int) then (if (rd x6 x8) = x3 then (cmp_Or_int.l0 k x3 x6 x7 (wrap64 (x8 + 1))) else (some (rd x6 x8))) else (none)) else (none)) else (some x3)
def cmp_Or_int.f (k : Nat) (l0 : List Int) : Option (Int) := cmp_Or_int.l0 k 0 l0 (l0.length : Int) 0
theorem cmp_Or_int.calls (k : Nat) (A0 : Option Addr) (c0 : Nat) (l0 : List Int) (r : Int) (w : World) (hr0 : Kd.C (Kd.int .i64) w A0 l0.length l0) (hc0 : l0.length ≤ c0) (h : cmp_Or_int.f k l0 = some r) :
  Calls Tryz.prog 128 #[.slice A0 l0.length c0] w fun e w' => e = .returned (.int .i64 r) ∧ Drawn0 w w' := by
 have HR0 := Aside0.mk hr0
 have HC0 := Aside0.mk hc0
 clear hr0 hc0
 have H : (cmp_Or_int.l0 k 0 l0 (l0.length : Int) 0) = some r := h
 clear h
 have H' := Aside0.mk H
 clear H
 go_enter Tryz.func128, Tryz.ntmps128
 go_wp2
 go_loopg [8] k (fun kq v8 w' => ∃ (x8_1 : Int), v8 = .int .i64 x8_1 ∧ Aside0 (cmp_Or_int.l0 kq 0 l0 (l0.length : Int) x8_1 = some r) ∧ Aside0 (kq ≤ k) ∧ Drawn0 w w')
 case atStart => exact ⟨(0), Xr, H', Xkr, by repeat (first | exact Drawn0.refl _ | apply Drawn0.step)⟩
 clear H'
 obtain ⟨x8_1, rfl, HA, HK1, ⟨m1, rfl⟩⟩ := hrel
 cases gk with | zero => cases HA.out | succ k1 => ?_
 have H := HA.out
 clear HA
 simp only [cmp_Or_int.l0] at H
 obtain ⟨c2b0, H⟩ | ⟨c2b0, H⟩ := Xit H
 ·obtain ⟨c3b0, H⟩ := Xid H
  obtain ⟨c4b0, H⟩ := Xid H
  obtain ⟨c5, H⟩ | ⟨c5, H⟩ := Xiu H
  ·have c5b0 : ((rd l0 x8_1) == 0) = true := beq_iff_eq.mpr c5
   have c5b1 : ((rd l0 x8_1) != 0) = false := bne_eq_false_iff_eq.mpr c5
   clear c5
   have H' := Aside0.mk H
   clear H
   have p441 : 0 ≤ (x8_1 : Int) := of_decide_eq_true Xa
   have q441 : x8_1 < (l0.length : Int) := of_decide_eq_true Xa
   obtain ⟨ad441, e441, hx441_0⟩ := Kd.at_int HR0.out x8_1 p441 q441
   cases e441
   replace p441 := eq_true p441
   replace q441 := eq_true q441
   go_wp2
   go_roundg k1
   case measure => have := HK1.out; omega
   case rel => exact ⟨(wrap64 (x8_1 + 1)), Xr, H', Xk1, by repeat (first | exact Drawn0.refl _ | apply Drawn0.step)⟩
  have c5b0 : ((rd l0 x8_1) == 0) = false := beq_eq_false_iff_ne.mpr c5
  have c5b1 : ((rd l0 x8_1) != 0) = true := bne_iff_ne.mpr c5
  obtain rfl := Option.some.inj H
  have p441 : 0 ≤ (x8_1 : Int) := of_decide_eq_true Xa
  have q441 : x8_1 < (l0.length : Int) := of_decide_eq_true Xa
  obtain ⟨ad441, e441, hx441_0⟩ := Kd.at_int HR0.out x8_1 p441 q441
  cases e441
  replace p441 := eq_true p441
  replace q441 := eq_true q441
  go_wp2
  go_ret
  exact ⟨Xr, Xdr⟩
 obtain rfl := Option.some.inj H
 go_wp2
 go_ret
 exact ⟨Xr, Xdr⟩
def cmp_isNaN_int.f (a0 : Int) : Option (Bool) := some (a0 != a0)
theorem cmp_isNaN_int.calls (a0 : Int) (r : Bool) (w : World) (h : cmp_isNaN_int.f a0 = some r) :
  Calls Tryz.prog 164 #[.int .i64 a0] w fun e w' => e = .returned (.bool r) ∧ Drawn0 w w' := by
 have H : (some (a0 != a0)) = some r := h
 clear h
 obtain rfl := Option.some.inj H
 go_enter Tryz.func164, Tryz.ntmps164
 go_wp2
 go_ret
 exact ⟨Xr, Xdr⟩
def cmp_Compare_int.f (a0 : Int) (a1 : Int) : Option (Int) := (cmp_isNaN_int.f a0).bind fun t442 => ((cmp_isNaN_int.f a1).bind fun t443 => (if t442 = true then (if t443 = true then (some 0) else (some (-1))) else (if t443 = true then (some 1) else (if a0 < a1 then (some (-1)) else (if a0 > a1 then (some 1) else (some 0))))))
theorem cmp_Compare_int.calls (a0 : Int) (a1 : Int) (r : Int) (w : World) (h : cmp_Compare_int.f a0 a1 = some r) :
  Calls Tryz.prog 129 #[.int .i64 a0, .int .i64 a1] w fun e w' => e = .returned (.int .i64 r) ∧ Drawn0 w w' := by
 have H : ((cmp_isNaN_int.f a0).bind fun t442 => ((cmp_isNaN_int.f a1).bind fun t443 => (if t442 = true then (if t443 = true then (some 0) else (some (-1))) else (if t443 = true then (some 1) else (if a0 < a1 then (some (-1)) else (if a0 > a1 then (some 1) else (some 0))))))) = some r := h
 clear h
 obtain ⟨t442, A3, H⟩ := Xbi H
 try dsimp only at H
 obtain ⟨t443, A4, H⟩ := Xbi H
 try dsimp only at H
 have HC5 := Aside0.mk H
 clear H
 go_enter Tryz.func129, Tryz.ntmps129
 go_upto_if 11 with (first | ((with_reducible refine gate_callee (f := 164) rfl ?_); refine Xgo 8 Tryz.func164 #[.int .i64 a0] ?_; (with_reducible refine (cmp_isNaN_int.calls a0 t442 _ A3.out).mono ?_); rintro e w' ⟨rfl, ⟨nd, rfl⟩⟩; refine ⟨_, rfl, ?_⟩) | ((with_reducible refine gate_callee (f := 164) rfl ?_); refine Xgo 10 Tryz.func164 #[.int .i64 a1] ?_; (with_reducible refine (cmp_isNaN_int.calls a1 t443 _ A4.out).mono ?_); rintro e w' ⟨rfl, ⟨nd, rfl⟩⟩; refine ⟨_, rfl, ?_⟩))
 have H := HC5.out
 clear HC5
 by_cases c6 : t442 = true
 ·subst c6
  try rw [if_pos rfl] at H
  by_cases c7 : t443 = true
  ·subst c7
   try rw [if_pos rfl] at H
   obtain rfl := Option.some.inj H
   go_wp2
   go_ret
   exact ⟨Xr, Xdr⟩
  replace c7 := Bool.eq_false_iff.mpr c7
  subst c7
  try rw [if_neg (show ¬ (false = true) by decide)] at H
  obtain rfl := Option.some.inj H
  go_wp2
  go_ret
  exact ⟨Xr, Xdr⟩
 replace c6 := Bool.eq_false_iff.mpr c6
 subst c6
 try rw [if_neg (show ¬ (false = true) by decide)] at H
 by_cases c8 : t443 = true
 ·subst c8
  try rw [if_pos rfl] at H
  obtain rfl := Option.some.inj H
  go_wp2
  go_ret
  exact ⟨Xr, Xdr⟩
 replace c8 := Bool.eq_false_iff.mpr c8
 subst c8
 try rw [if_neg (show ¬ (false = true) by decide)] at H
 obtain ⟨c9b0, H⟩ | ⟨c9b0, H⟩ := Xit H
 ·(first | rw [c9b0] | (simp only [i64_w, i32_w]; rw [c9b0]) | skip)
  obtain rfl := Option.some.inj H
  go_wp2
  go_ret
  exact ⟨Xr, Xdr⟩
 (first | rw [c9b0] | (simp only [i64_w, i32_w]; rw [c9b0]) | skip)
 obtain ⟨c10, H⟩ | ⟨c10, H⟩ := Xiu H
 ·have c10b0 : decide (a1 < a0) = true := decide_eq_true c10
  clear c10
  obtain rfl := Option.some.inj H
  go_wp2
  go_ret
  exact ⟨Xr, Xdr⟩
 have c10b0 : decide (a1 < a0) = false := decide_eq_false c10
 clear c10
 obtain rfl := Option.some.inj H
 go_wp2
 go_ret
 exact ⟨Xr, Xdr⟩
def impl_compareHolds.f (k : Nat) (a0_0 : Int) (a0_1 : Int) (a0_2 : Int) (a1_0 : Int) (a1_1 : Int) (a1_2 : Int) : Option (Int) := (cmp_Compare_int.f a0_0 a1_0).bind fun t446 => ((cmp_Compare_int.f a0_1 a1_1).bind fun t447 => ((cmp_Or_int.f k (([t446, t447] : List Int))).bind fun t451 => (some t451)))
def impl_compareHolds.T1 : Bool × List (List Nat × List Nat) := (true, [([], []), ([0], [0]), ([], []), ([2], [2]), ([1, 3], [1, 3]), ([], []), ([5], [5]), ([], []), ([7], [7]), ([6, 8, 4], [6, 8]), ([4, 9], [4, 9]), ([10, 9], [10]), ([11, 11, 0, 1, 2, 3, 4, 5, 6, 7, 8, 9, 10, 11], [11])])
def impl_compareHolds.B1 : List Nat := [0, 1, 0, 4, 15, 0, 32, 0, 128, 511, 1023, 2047, 4095]
theorem impl_compareHolds.tab1 : rtab .any (opsOf Tryz.f70 1) = impl_compareHolds.T1 := by kernel_rfl
theorem impl_compareHolds.bits1 : waitsOk impl_compareHolds.T1.2 impl_compareHolds.B1 = true := by kernel_rfl
theorem impl_compareHolds.calls (k : Nat) (a0_0 : Int) (a0_1 : Int) (a0_2 : Int) (a1_0 : Int) (a1_1 : Int) (a1_2 : Int) (r : Int) (w : World) (h : impl_compareHolds.f k a0_0 a0_1 a0_2 a1_0 a1_1 a1_2 = some r) :
  Calls Tryz.prog 70 #[.agg #[.int .i64 a0_0, .int .i64 a0_1, .int .i64 a0_2], .agg #[.int .i64 a1_0, .int .i64 a1_1, .int .i64 a1_2]] w fun e w' => e = .returned (.int .i64 r) ∧ Below w.heap.size w w' := by
 have hu39 := Tryz.underlying39
 have HB := Aside0.mk (Below.refl w.heap.size w)
 have H : ((cmp_Compare_int.f a0_0 a1_0).bind fun t446 => ((cmp_Compare_int.f a0_1 a1_1).bind fun t447 => ((cmp_Or_int.f k (([t446, t447] : List Int))).bind fun t451 => (some t451)))) = some r := h
 clear h
 obtain ⟨t446, A3, H⟩ := Xbi H
 try dsimp only at H
 obtain ⟨t447, A4, H⟩ := Xbi H
 try dsimp only at H
 obtain ⟨y448, hy448⟩ : ∃ y_ : List Int, y_ = (([t446, t447] : List Int)) := ⟨_, rfl⟩
 replace H : ((cmp_Or_int.f k y448).bind fun t451 => (some t451)) = some r := by first | (rw [hy448]; with_reducible exact H) | (have H2_ := (Option.bind_some _ _).symm.trans H; rw [hy448]; with_reducible exact H2_) | (have H2_ := (Option.bind_some _ _).symm.trans H; with_reducible exact H2_) | with_reducible exact H | (rw [hy448]; exact H) | exact H
 have Ny448 := Aside0.mk hy448
 clear hy448
 obtain ⟨t451, A5, H⟩ := Xbi H
 try dsimp only at H
 obtain rfl := Option.some.inj H
 go_enter Tryz.func70, Tryz.ntmps70
 try go_wp2_with (first | ((with_reducible refine gate_dst (N := 2) rfl ?_); refine Xbox 2 #[.int .i64 a0_0, .int .i64 a0_1, .int .i64 a0_2] 39 ?_; intro gb444 hg w6 hbox hb; have BK444 := Aside0.mk (hbox); have GE444 := Xge hg Xi; replace HB := Aside0.mk (below_step Xi hb); clear hb hbox hg) | ((with_reducible refine gate_dst (N := 3) rfl ?_); refine Xbox 3 #[.int .i64 a1_0, .int .i64 a1_1, .int .i64 a1_2] 39 ?_; intro gb445 hg w7 hbox hb; have BK445 := Aside0.mk (hbox); have GE445 := Xge hg Xi; replace HB := Aside0.mk (below_step Xi hb); have NB444_445 := Xnb hg BK444; have NB445_444 := Xns NB444_445; replace BK444 := Xbb BK444 hb; clear hb hbox hg))
 replace BK444 := Aside0.mk (blk_drew BK444.out)
 replace BK445 := Aside0.mk (blk_drew BK445.out)
 replace HB := Aside0.mk (below_drew1 HB.out)
 refine start_ (n := 13) (S := fun w' => w'.cell? ⟨gb444, 0, none⟩ = some (.int .i64 a0_0) ∧ w'.cell? ⟨gb444, 1, none⟩ = some (.int .i64 a0_1) ∧ w'.cell? ⟨gb444, 2, none⟩ = some (.int .i64 a0_2) ∧ w'.cell? ⟨gb445, 0, none⟩ = some (.int .i64 a1_0) ∧ w'.cell? ⟨gb445, 1, none⟩ = some (.int .i64 a1_1) ∧ w'.cell? ⟨gb445, 2, none⟩ = some (.int .i64 a1_2)) (ds := []) #[false, false, false, false, false, false, false, false, false, false, false, false, false] (by kernel_rfl) rfl rfl ⟨(blk_cell BK444.out 0).trans rfl, (blk_cell BK444.out 1).trans rfl, (blk_cell BK444.out 2).trans rfl, (blk_cell BK445.out 0).trans rfl, (blk_cell BK445.out 1).trans rfl, (blk_cell BK445.out 2).trans rfl⟩ (fun hHeld => ?_); refine with_tabW impl_compareHolds.tab1 impl_compareHolds.bits1 (fun HT_ HW_ => ?_)
 generalize w7.drew = w8 at BK444 BK445 HB hHeld ⊢
 refine Xpu 0 5 (XW.bs 13 1) HT_.out ?_
 refine Xpu 2 7 (XW.bs 13 5) HT_.out ?_
 refine Xpu 5 10 (XW.bs 13 37) HT_.out ?_
 refine Xpu 7 12 (XW.bs 13 165) HT_.out ?_
 refine Xta 1 6 (XW.bs 13 167) HT_.out HW_.out hHeld ?_
 refine Xta 3 8 (XW.bs 13 175) HT_.out HW_.out hHeld ?_
 refine Xta 6 11 (XW.bs 13 239) HT_.out HW_.out hHeld ?_
 refine Xta 8 13 (XW.bs 13 495) HT_.out HW_.out hHeld ?_
 refine one_ (i := 4) (N := some 9) (XW.bs 13 511) rfl rfl (one_of HT_.out (by kernel_rfl)) (by decide) (fun K hK => ?_)
 refine goes_ Tryz.func129 (by kernel_rfl) rfl #[.int .i64 a0_0, .int .i64 a1_0] (by rfl) rfl rfl (by (try simp only [List.map_toArray, List.map_cons, List.map_nil]); first | done | rfl | (simp only [List.length_drop, List.length_take]; rfl)) ?_
 with_reducible refine (cmp_Compare_int.calls a0_0 a1_0 t446 _ A3.out).mono ?_
 rintro e w' ⟨rfl, ⟨nd, rfl⟩⟩
 refine ⟨_, rfl, ?_⟩
 refine hK.out _ _ ⟨(blk_cell BK444.out 0).trans rfl, (blk_cell BK444.out 1).trans rfl, (blk_cell BK444.out 2).trans rfl, (blk_cell BK445.out 0).trans rfl, (blk_cell BK445.out 1).trans rfl, (blk_cell BK445.out 2).trans rfl⟩ (fun hHeld => ?_)
 clear hK K
 refine Xno ?_
 refine one_ (i := 9) (N := some 14) (XW.bs 13 1023) rfl rfl (one_of HT_.out (by kernel_rfl)) (by decide) (fun K hK => ?_)
 refine goes_ Tryz.func129 (by kernel_rfl) rfl #[.int .i64 a0_1, .int .i64 a1_1] (by rfl) rfl rfl (by (try simp only [List.map_toArray, List.map_cons, List.map_nil]); first | done | rfl | (simp only [List.length_drop, List.length_take]; rfl)) ?_
 with_reducible refine (cmp_Compare_int.calls a0_1 a1_1 t447 _ A4.out).mono ?_
 rintro e w' ⟨rfl, ⟨nd, rfl⟩⟩
 refine ⟨_, rfl, ?_⟩
 refine hK.out _ _ ⟨(blk_cell BK444.out 0).trans rfl, (blk_cell BK444.out 1).trans rfl, (blk_cell BK444.out 2).trans rfl, (blk_cell BK445.out 0).trans rfl, (blk_cell BK445.out 1).trans rfl, (blk_cell BK445.out 2).trans rfl⟩ (fun hHeld => ?_)
 clear hK K
 refine Xno ?_
 refine one_ (i := 10) (N := some 15) (XW.bs 13 2047) rfl rfl (one_of HT_.out (by kernel_rfl)) (by decide) (fun K hK => ?_)
 refine Kd.R_lit_step (Kd.int .i64) _ 3 ?hg (N := 15) ?hd (xs := ([t446, t447] : List Int)) (inner := [.int .i64 t446, .int .i64 t447]) (ok := fun _ => True) (okp := fun _ => True) ?hr ?hp (fun _ hk => hk) trivial (Below.refl _ _) (Nat.le_refl _) (by simp) ?_; (case hd => rfl); (case hg => rfl); (case hr => first | (go_simp; done) | (go_simp; rfl)); (case hp => exact (Reps.one (show Kd.M (Kd.int .i64) _ _ _ t446 [.int .i64 t446] from rfl) (Reps.one (show Kd.M (Kd.int .i64) _ _ _ t447 [.int .i64 t447] from rfl) (Reps.none _ _))))
 intro v449 w9 ho10 hb hg_ hnew_
 clear hg_ hnew_
 (first | rw [← Ny448.out] at ho10 | (simp only [Int.reduceToNat] at ho10; rw [← Ny448.out] at ho10))
 have HO450 := Aside0.mk (Kd.R_lower ho10 (below_size Xi))
 replace BK444 := Xbb BK444 hb
 replace BK445 := Xbb BK445 hb
 replace HB := Aside0.mk (below_step Xi hb)
 clear hb ho10
 obtain ⟨Ao11, co11, eo11⟩ := Kd.R_slice HO450.out
 (first | subst eo11 | (injection eo11 with f1_ f2_ f3_; have f4_ := f1_.symm; have f5_ := f3_.symm; clear f1_ f2_ f3_; subst f4_; subst f5_))
 refine hK.out _ _ ⟨(blk_cell BK444.out 0).trans rfl, (blk_cell BK444.out 1).trans rfl, (blk_cell BK444.out 2).trans rfl, (blk_cell BK445.out 0).trans rfl, (blk_cell BK445.out 1).trans rfl, (blk_cell BK445.out 2).trans rfl⟩ (fun hHeld => ?_)
 clear hK K
 refine Xno ?_
 refine one_ (i := 11) (N := some 16) (XW.bs 13 4095) rfl rfl (one_of HT_.out (by kernel_rfl)) (by decide) (fun K hK => ?_)
 refine goes_ Tryz.func128 (by kernel_rfl) rfl #[.slice Ao11 y448.length co11] (by rfl) rfl rfl (by (try simp only [List.map_toArray, List.map_cons, List.map_nil]); first | done | rfl | (simp only [List.length_drop, List.length_take]; rfl)) ?_
 with_reducible refine (cmp_Or_int.calls k _ _ y448 t451 _ ?side1 ?side2 A5.out).mono ?_
 (case side1 => repeat (first | exact (Kd.R_reads' HO450.out).2.2 | (with_reducible first | refine Kd.C_alloc ?_ _ | refine Kd.C_drewN ?_ _ | refine Kd.C_drew ?_)))
 (case side2 => exact (Kd.R_reads' HO450.out).2.1)
 rintro e w' ⟨rfl, ⟨nd, rfl⟩⟩
 refine ⟨_, rfl, ?_⟩
 refine hK.out _ _ ⟨(blk_cell BK444.out 0).trans rfl, (blk_cell BK444.out 1).trans rfl, (blk_cell BK444.out 2).trans rfl, (blk_cell BK445.out 0).trans rfl, (blk_cell BK445.out 1).trans rfl, (blk_cell BK445.out 2).trans rfl⟩ (fun hHeld => ?_)
 clear hK K
 refine Xno ?_
 refine Xpu 12 4 (XW.bs 13 8191) HT_.out ?_
 refine done_ (done_of HT_.out (by kernel_rfl)) ?_
 try go_wp2_with (fail)
 go_ret
 exact ⟨Xe, Xi⟩
end Go.Proofs.YtahhgjkgfbppeaaGreat.XA
