/- Contracts of the program's functions: each Go function that is named below comes to what its Lean function says. Written by xprint.py (a program of this session's, over the kit's print). Conditions: each contract's own premises. -/
import Derived.Test.YtocelbmpnjnnbaaYPutHold0
import Derived.Test.YtocelbmpnjnnbaaYPutHold4
import Derived.Test.YtocelbmpnjnnbaaYPutHold6
namespace Go.Proofs.Ytocelbmpnjnnbaa.XA
open Go.RowKit Go.Proofs.YtocelbmpnjnnbaaW.PrintWords Go.Proofs.YtocelbmpnjnnbaaW.PrintLast Go.Proofs.YtocelbmpnjnnbaaW.PrintMore XW
attribute [local go_sem] max2_int min2_int max_two min_two max_three min_three max_four min_four   -- for this text's walks alone
set_option linter.unusedVariables false
set_option linter.unusedSimpArgs false

/-! ### spec_l07Put: function 54 -/
mutual
def spec_l07Put.l0 : Nat → List (S38) → List (S38) → Bool → Int → Int → Int → Int → Option ((List (S38)))
 | 0, _, _, _, _, _, _, _ => none
 | k + 1, x0, x5, x6, x7, x177000, x177001, x177002 => if x7 < (x0.length : Int) then (if x6 = true then (spec_l07Put.j1 k x0 x5 x6 x7 false x177000 x177001 x177002) else (if 0 ≤ x7 then ((spec_l07Less.f ((rd_T38 x0 x7).f0) ((rd_T38 x0 x7).f1) ((rd_T38 x0 x7).f2) x177000 x177001 x177002).bind fun t186 => (spec_l07Put.j1 k x0 x5 x6 x7 (!t186) x177000 x177001 x177002)) else (none))) else (if x6 = true then (some x5) else (if x5.length < 5864062014805 then (some (x5 ++ [(⟨x177000, x177001, x177002⟩ : S38)])) else (none)))
def spec_l07Put.j1 : Nat → List (S38) → List (S38) → Bool → Int → Bool → Int → Int → Int → Option ((List (S38)))
 | 0, _, _, _, _, _, _, _, _ => none
 | k + 1, x0, x5, x6, x7, x35, x177000, x177001, x177002 => if x35 = true then (if x5.length < 5864062014805 then ((some (x5 ++ [(⟨x177000, x177001, x177002⟩ : S38)] : List (S38))).bind fun y187 => (if 0 ≤ x7 then (if x7 < (x0.length : Int) then (if ((rd_T38 x0 x7).f0) = x177000 then (if ((rd_T38 x0 x7).f1) = x177001 then (spec_l07Put.l0 k x0 y187 true (wrap64 (x7 + 1)) x177000 x177001 x177002) else (if y187.length < 5864062014805 then (spec_l07Put.l0 k x0 (y187 ++ [(⟨(rd_T38 x0 x7).f0, (rd_T38 x0 x7).f1, (rd_T38 x0 x7).f2⟩ : S38)]) true (wrap64 (x7 + 1)) x177000 x177001 x177002) else (none))) else (if y187.length < 5864062014805 then (spec_l07Put.l0 k x0 (y187 ++ [(⟨(rd_T38 x0 x7).f0, (rd_T38 x0 x7).f1, (rd_T38 x0 x7).f2⟩ : S38)]) true (wrap64 (x7 + 1)) x177000 x177001 x177002) else (none))) else (none)) else (none))) else (none)) else (if 0 ≤ x7 then (if x7 < (x0.length : Int) then (if ((rd_T38 x0 x7).f0) = x177000 then (if ((rd_T38 x0 x7).f1) = x177001 then (spec_l07Put.l0 k x0 x5 x6 (wrap64 (x7 + 1)) x177000 x177001 x177002) else (if x5.length < 5864062014805 then (spec_l07Put.l0 k x0 (x5 ++ [(⟨(rd_T38 x0 x7).f0, (rd_T38 x0 x7).f1, (rd_T38 x0 x7).f2⟩ : S38)]) x6 (wrap64 (x7 + 1)) x177000 x177001 x177002) else (none))) else (if x5.length < 5864062014805 then (spec_l07Put.l0 k x0 (x5 ++ [(⟨(rd_T38 x0 x7).f0, (rd_T38 x0 x7).f1, (rd_T38 x0 x7).f2⟩ : S38)]) x6 (wrap64 (x7 + 1)) x177000 x177001 x177002) else (none))) else (none)) else (none))
end
def spec_l07Put.f (k : Nat) (l0 : List (S38)) (a1_0 : Int) (a1_1 : Int) (a1_2 : Int) : Option ((List (S38))) := (spec_l07Own.f k l0 a1_0 a1_1).bind fun t177 => ((spec_l07Join.f k a1_2 t177).bind fun t178 => (spec_l07Put.l0 k l0 (([] : List (S38))) false 0 a1_0 a1_1 t178))
def spec_l07Put.T1 : Bool × List (List Nat × List Nat) := (true, [([], []), ([0], [0]), ([], []), ([], []), ([3], [3]), ([], []), ([5], [5]), ([2, 4, 6], [2, 4, 6]), ([1, 7, 7], [1, 7]), ([0, 1, 2, 3, 4, 5, 6, 7, 8], []), ([9, 8, 8, 0, 1, 2, 3, 4, 5, 6, 7, 8], [8, 9])])
def spec_l07Put.B1 : List Nat := [0, 1, 0, 0, 8, 0, 32, 124, 255, 511, 1023]
theorem spec_l07Put.tab1 : rtab .any (opsOf Try.f54 1) = spec_l07Put.T1 := by kernel_rfl
theorem spec_l07Put.bits1 : waitsOk spec_l07Put.T1.2 spec_l07Put.B1 = true := by kernel_rfl
def spec_l07Put.T7 : Bool × List (List Nat × List Nat) := (true, [([], []), ([0], [0]), ([1], [1]), ([2], [2]), ([2], [2]), ([3, 4, 2], [2, 3, 4]), ([5, 2], [2, 5]), ([2], [2]), ([6, 7, 2, 2], [2, 6, 7]), ([8, 2], [2, 8]), ([2, 9], [2, 9])])
def spec_l07Put.B7 : List Nat := [0, 1, 3, 7, 7, 31, 63, 7, 255, 511, 1023]
theorem spec_l07Put.tab7 : rtab .any (opsOf Try.f54 7) = spec_l07Put.T7 := by kernel_rfl
theorem spec_l07Put.bits7 : waitsOk spec_l07Put.T7.2 spec_l07Put.B7 = true := by kernel_rfl
def spec_l07Put.T10 : Bool × List (List Nat × List Nat) := (true, [([], []), ([], []), ([0, 1], [0, 1]), ([2], [2]), ([3], [3]), ([], []), ([5], [5]), ([4, 6], [4, 6]), ([7], [7]), ([8], [8]), ([8], [8]), ([9, 10, 8], [8, 9, 10]), ([11, 8], [8, 11]), ([12, 8], [8, 12]), ([8], [8]), ([14, 8], [8, 14]), ([13, 15, 8], [8, 13, 15]), ([8, 16], [8, 16])])
def spec_l07Put.B10 : List Nat := [0, 0, 3, 7, 15, 0, 32, 127, 255, 511, 511, 2047, 4095, 8191, 511, 16895, 65535, 131071]
theorem spec_l07Put.tab10 : rtab .any (opsOf Try.f54 10) = spec_l07Put.T10 := by kernel_rfl
theorem spec_l07Put.bits10 : waitsOk spec_l07Put.T10.2 spec_l07Put.B10 = true := by kernel_rfl
set_option maxHeartbeats 8000000 in
set_option maxRecDepth 100000 in
theorem spec_l07Put.calls (k : Nat) (A0 : Option Addr) (c0 : Nat) (l0 : List (S38)) (a1_0 : Int) (a1_1 : Int) (a1_2 : Int) (r : List (S38)) (w : World) (hr0 : Kd.C k38 w A0 l0.length l0) (hc0 : l0.length ≤ c0) (h : spec_l07Put.f k l0 a1_0 a1_1 a1_2 = some r) :
  Calls Try.prog 54 #[.slice A0 l0.length c0, .agg #[.int .i64 a1_0, .int .i64 a1_1, .int .i64 a1_2]] w fun e w' => ∃ v0_ : Value, e = .returned (v0_) ∧ Kd.R k38 38 w' w.heap.size (fun _ => True) v0_ r ∧ Below w.heap.size w w' := by
 have hu38 := Try.underlying38
 have HR0 := Aside0.mk hr0
 have HC0 := Aside0.mk hc0
 clear hr0 hc0
 have HB := Aside0.mk (Below.refl w.heap.size w)
 have H : ((spec_l07Own.f k l0 a1_0 a1_1).bind fun t177 => ((spec_l07Join.f k a1_2 t177).bind fun t178 => (spec_l07Put.l0 k l0 (([] : List (S38))) false 0 a1_0 a1_1 t178))) = some r := h
 clear h
 obtain ⟨t177, A3, H⟩ := Xbi H
 (try dsimp only at H)
 obtain ⟨t178, A4, H⟩ := Xbi H
 (try dsimp only at H)
 obtain ⟨y179, hy179⟩ : ∃ y_ : List (S38), y_ = (([] : List (S38))) := ⟨_, rfl⟩
 replace H : (spec_l07Put.l0 k l0 y179 false 0 a1_0 a1_1 t178) = some r := by first | (rw [hy179]; with_reducible exact H) | (have H2_ := (Option.bind_some _ _).symm.trans H; rw [hy179]; with_reducible exact H2_) | (have H2_ := (Option.bind_some _ _).symm.trans H; with_reducible exact H2_) | with_reducible exact H | (rw [hy179]; exact H) | exact H
 have Ny179 := Aside0.mk hy179
 clear hy179
 have H' := Aside0.mk H
 clear H
 go_enter Try.func54, Try.ntmps54
 try go_wp2_with (first | ((with_reducible refine gate_dst (N := 3) rfl ?_); refine Xbox 3 #[.int .i64 a1_0, .int .i64 a1_1, .int .i64 a1_2] 38 ?_; intro gb176 hg w5 hbox hb; have BK176 := Aside0.mk (hbox); have GE176 := Xge hg Xi; replace HB := Aside0.mk (below_step Xi hb); clear hb hbox hg))
 replace BK176 := Aside0.mk (blk_drew BK176.out)
 replace HB := Aside0.mk (below_drew1 HB.out)
 refine start_ (n := 11) (S := fun w' => w'.cell? ⟨gb176, 0, none⟩ = some (.int .i64 a1_0) ∧ w'.cell? ⟨gb176, 1, none⟩ = some (.int .i64 a1_1) ∧ w'.cell? ⟨gb176, 2, none⟩ = some (.int .i64 a1_2)) (ds := [10]) #[false, false, false, false, false, false, false, false, false, false, false] (by kernel_rfl) rfl rfl ⟨(blk_cell BK176.out 0).trans rfl, (blk_cell BK176.out 1).trans rfl, (blk_cell BK176.out 2).trans rfl⟩ (fun hHeld => ?_); refine with_tabW spec_l07Put.tab1 spec_l07Put.bits1 (fun HT_ HW_ => ?_)
 generalize w5.drew = w6 at BK176 HB hHeld ⊢
 refine Xpu 0 8 (XW.bs 11 1) HT_.out ?_
 refine Xpu 2 10 (XW.bs 11 5) HT_.out ?_
 refine Xpu 3 11 (XW.bs 11 13) HT_.out ?_
 refine Xpu 5 13 (XW.bs 11 45) HT_.out ?_
 refine Xta 1 9 (XW.bs 11 47) HT_.out HW_.out hHeld ?_
 refine Xta 4 12 (XW.bs 11 63) HT_.out HW_.out hHeld ?_
 refine Xta 6 14 (XW.bs 11 127) HT_.out HW_.out hHeld ?_
 refine one_ (i := 7) (N := some 15) (XW.bs 11 255) rfl rfl (one_of HT_.out (by kernel_rfl)) (by decide) (fun K hK => ?_)
 refine goes_ Try.func115 (by kernel_rfl) rfl #[.slice A0 l0.length c0, .int .i64 a1_0, .int .i64 a1_1] (by rfl) rfl rfl (by (try simp only [List.map_toArray, List.map_cons, List.map_nil]); first | done | rfl | (simp only [List.length_drop, List.length_take]; rfl)) ?_
 with_reducible refine (spec_l07Own.calls k _ _ l0 a1_0 a1_1 t177 _ ?side1 ?side2 A3.out).mono ?_
 (case side1 => exact Xc HR0)
 (case side2 => exact HC0.out)
 rintro e w' ⟨rfl, ⟨nd, rfl⟩⟩
 refine ⟨_, rfl, ?_⟩
 refine hK.out _ _ ⟨(blk_cell BK176.out 0).trans rfl, (blk_cell BK176.out 1).trans rfl, (blk_cell BK176.out 2).trans rfl⟩ (fun hHeld => ?_)
 clear hK K
 refine Xno ?_
 refine one_ (i := 8) (N := some 16) (XW.bs 11 511) rfl rfl (one_of HT_.out (by kernel_rfl)) (by decide) (fun K hK => ?_)
 refine goes_ Try.func114 (by kernel_rfl) rfl #[.int .i64 a1_2, .int .i64 t177] (by rfl) rfl rfl (by (try simp only [List.map_toArray, List.map_cons, List.map_nil]); first | done | rfl | (simp only [List.length_drop, List.length_take]; rfl)) ?_
 with_reducible refine (spec_l07Join.calls k a1_2 t177 t178 _ A4.out).mono ?_
 rintro e w7 ⟨rfl, hb⟩
 refine ⟨_, rfl, ?_⟩
 replace BK176 := Xbb BK176 hb
 replace HB := Aside0.mk (below_step Xi hb)
 (try clear hb)
 (try clear hb2)
 (try clear hk)
 (try clear hi)
 refine hK.out _ _ ⟨(blk_cell BK176.out 0).trans rfl, (blk_cell BK176.out 1).trans rfl, (blk_cell BK176.out 2).trans rfl⟩ (fun hHeld => ?_)
 clear hK K
 refine Xno ?_
 refine Xpu 9 17 (XW.bs 11 1023) HT_.out ?_
 refine last_ (i := 10) (N := none) #[true, true, true, true, true, true, true, true, true, true, true] rfl rfl (one_of HT_.out (by kernel_rfl)) (by decide) (fun K hK => ?_)
 have hs8 : w7.cell? ⟨gb176, 2, none⟩ = some (.int .i64 a1_2) := (blk_cell BK176.out 2).trans rfl
 have hfs8 := blk_frozen BK176.out 2
 refine skip_ (w1 := ?_) (by rfl) rfl ?_ ?_
 rotate_left
 ·go_simp
  rfl
 refine hK.out _ _ ?_
 clear hK K
 refine done_ (done_of HT_.out (by kernel_rfl)) ?_
 try go_wp2_with (first | ((with_reducible refine gate_dst (N := 18) rfl ?_); refine Kd.R_lit k38 _ 38 ?hg (N := 18) ?hd (xs := ([] : List (S38))) (inner := []) (ok := fun _ => True) (okp := fun _ => True) ?hr ?hp (fun _ hk => hk) trivial (Below.refl _ _) (Nat.le_refl _) (by simp) ?_; (case hd => rfl); (case hg => rfl); (case hr => first | (go_simp; done) | (go_simp; rfl)); (case hp => exact (Reps.none _ _)); intro v180 w9 ho10 hb hg_ hnew_; clear hg_ hnew_; (first | rw [← Ny179.out] at ho10 | (simp only [Int.reduceToNat] at ho10; rw [← Ny179.out] at ho10)); have HO181 := Aside0.mk (Kd.R_lower (Kd.R_newB ho10 (g := gb176) (o := .cells #[.int .i64 a1_0, .int .i64 a1_1, .int .i64 t178] 38 (0, 0)) (by (with_reducible repeat (first | refine blk_drewN ?_ _ | refine blk_drew ?_ | refine blk_alloc ?_ _)); refine blk_put (cs := #[.int .i64 a1_0, .int .i64 a1_1, .int .i64 a1_2]) ?_ 2 _ rfl; (with_reducible repeat (first | refine blk_drewN ?_ _ | refine blk_drew ?_ | refine blk_alloc ?_ _)); exact BK176.out)) (below_size Xi)); replace BK176 := Aside0.mk (blk_below (g := gb176) (o := .cells #[.int .i64 a1_0, .int .i64 a1_1, .int .i64 t178] 38 (0, 0)) (by (with_reducible repeat (first | refine blk_drewN ?_ _ | refine blk_drew ?_ | refine blk_alloc ?_ _)); refine blk_put (cs := #[.int .i64 a1_0, .int .i64 a1_1, .int .i64 a1_2]) ?_ 2 _ rfl; (with_reducible repeat (first | refine blk_drewN ?_ _ | refine blk_drew ?_ | refine blk_alloc ?_ _)); exact BK176.out) hb); replace HB := Aside0.mk (below_step Xi hb); clear hb ho10))
 go_loopg [5, 6, 7] k (fun kq v5 v6 v7 w' => ∃ (x5_1 : List (S38)) (x6_1 : Bool) (x7_1 : Int), v6 = .bool x6_1 ∧ v7 = .int .i64 x7_1 ∧ Aside0 (spec_l07Put.l0 kq l0 x5_1 x6_1 x7_1 a1_0 a1_1 t178 = some r) ∧ Aside0 (kq ≤ k) ∧ Aside0 (Kd.R k38 38 w' w.heap.size (fun k_ => k_ ≠ gb176) v5 x5_1) ∧ Aside0 (w'.heap[gb176]? = some (.cells #[.int .i64 a1_0, .int .i64 a1_1, .int .i64 t178] 38 (0, 0))) ∧ Aside0 (Below w.heap.size w w'))
 case atStart => exact ⟨(y179), (false), (0), Xr, Xr, H', Xkr, ⟨by (with_reducible repeat (first | apply Kd.R_alloc | apply Kd.R_drewN | apply Kd.R_drew)); exact Kd.R_mono HO181.out (fun _ hk => hk.2)⟩, (Xp BK176), ⟨Xi⟩⟩
 case round =>
  clear H'
  obtain ⟨x5_1, x6_1, x7_1, rfl, rfl, HA, HK1, HO_5, BK176, HB⟩ := hrel
  cases gk with
  | zero => cases HA.out
  | succ k1 =>
   have H := HA.out
   clear HA
   simp only [spec_l07Put.l0] at H
   obtain ⟨c11b0, H⟩ | ⟨c11b0, H⟩ := Xit H
   ·have HC12 := Aside0.mk H
    clear H
    go_upto_region 7 with (fail)
    go_cut [35] (fun v35 wc => ∃ (kq : Nat) (x35_11 : Bool), v35 = .bool x35_11 ∧ Aside0 (spec_l07Put.j1 kq l0 x5_1 x6_1 x7_1 x35_11 a1_0 a1_1 t178 = some r) ∧ Aside0 (kq ≤ k1) ∧ Aside0 (Kd.R k38 38 wc w.heap.size (fun k_ => k_ ≠ gb176) u5 x5_1) ∧ Aside0 (wc.heap[gb176]? = some (.cells #[.int .i64 a1_0, .int .i64 a1_1, .int .i64 t178] 38 (0, 0))) ∧ Aside0 (Below w.heap.size w wc))
    case first =>
     have H := HC12.out
     clear HC12
     by_cases c13 : x6_1 = true
     ·subst c13
      (first | rw [if_pos rfl] at H | skip)
      have H' := Aside0.mk H
      clear H
      try go_wp2_with (fail)
      replace HO_5 := Aside0.mk (Kd.R_drew HO_5.out)
      replace BK176 := Aside0.mk (blk_drew BK176.out)
      replace HB := Aside0.mk (below_drew1 HB.out)
      refine start_ (n := 11) (S := fun w' => True) (ds := []) #[false, false, false, false, false, false, false, false, false, false, false] (by kernel_rfl) rfl rfl trivial (fun hHeld => ?_); refine with_tabW spec_l07Put.tab7 spec_l07Put.bits7 (fun HT_ HW_ => ?_)
      generalize wr.drew = w14 at HO_5 BK176 HB hHeld ⊢
      refine Xpu 0 25 (XW.bs 11 1) HT_.out ?_
      refine Xpu 1 26 (XW.bs 11 3) HT_.out ?_
      refine Xpu 2 27 (XW.bs 11 7) HT_.out ?_
      refine Xpn 3 28 (XW.bs 11 15) HT_.out ?_
      refine Xpn 4 29 (XW.bs 11 31) HT_.out ?_
      refine Xpn 5 30 (XW.bs 11 63) HT_.out ?_
      refine Xpn 6 31 (XW.bs 11 127) HT_.out ?_
      refine Xpn 7 32 (XW.bs 11 255) HT_.out ?_
      refine Xpn 8 33 (XW.bs 11 511) HT_.out ?_
      refine Xpn 9 34 (XW.bs 11 1023) HT_.out ?_
      refine Xpu 10 35 (XW.bs 11 2047) HT_.out ?_
      refine done_ (done_of HT_.out (by kernel_rfl)) ?_
      try go_wp2_with (fail)
      go_meet
      case rel => exact ⟨_, (false), Xr, H', ⟨by have := HK1.out; first | omega | exact Nat.le_refl _⟩, (Xp' HO_5), (Xp BK176), ⟨Xi⟩⟩
     ·replace c13 := Bool.eq_false_iff.mpr c13
      subst c13
      (first | rw [if_neg (show ¬ (false = true) by decide)] at H | skip)
      obtain ⟨c15b0, H⟩ := Xid H
      (first | rw [c15b0] | (simp only [i64_w, i32_w]; rw [c15b0]) | skip)
      obtain ⟨t186, A16, H⟩ := Xbi H
      (try dsimp only at H)
      have H' := Aside0.mk H
      clear H
      try go_wp2_with (fail)
      replace HO_5 := Aside0.mk (Kd.R_drew HO_5.out)
      replace BK176 := Aside0.mk (blk_drew BK176.out)
      replace HB := Aside0.mk (below_drew1 HB.out)
      have p185 : 0 ≤ (x7_1 : Int) := of_decide_eq_true Xa
      have q185 : x7_1 < (l0.length : Int) := of_decide_eq_true Xa
      obtain ⟨ad185, e185, hx185_0, hx185_1, hx185_2⟩ := at_T38 HR0.out x7_1 p185 q185
      have hw185_2 := hx185_2
      have hw185_1 := hx185_1
      have hw185_0 := hx185_0
      cases e185
      replace hx185_0 := Xm HB hx185_0
      replace hx185_1 := Xm HB hx185_1
      replace hx185_2 := Xm HB hx185_2
      replace p185 := eq_true p185
      replace q185 := eq_true q185
      refine start_ (n := 11) (S := fun w' => w'.cell? ⟨gb176, 0, none⟩ = some (.int .i64 a1_0) ∧ w'.cell? ⟨gb176, 1, none⟩ = some (.int .i64 a1_1) ∧ w'.cell? ⟨gb176, 2, none⟩ = some (.int .i64 t178) ∧ w'.cell? (ad185.add ((x7_1).toNat * 3)) = some (.int .i64 ((rd_T38 l0 x7_1).f0)) ∧ w'.cell? ⟨(ad185.add ((x7_1).toNat * 3)).block, (ad185.add ((x7_1).toNat * 3)).off + 1, none⟩ = some (.int .i64 ((rd_T38 l0 x7_1).f1)) ∧ w'.cell? ⟨(ad185.add ((x7_1).toNat * 3)).block, (ad185.add ((x7_1).toNat * 3)).off + 2, none⟩ = some (.int .i64 ((rd_T38 l0 x7_1).f2))) (ds := []) #[false, false, false, false, false, false, false, false, false, false, false] (by kernel_rfl) rfl rfl ⟨(blk_cell BK176.out 0).trans rfl, (blk_cell BK176.out 1).trans rfl, (blk_cell BK176.out 2).trans rfl, Xn hw185_0, Xn hw185_1, Xn hw185_2⟩ (fun hHeld => ?_); refine with_tabW spec_l07Put.tab7 spec_l07Put.bits7 (fun HT_ HW_ => ?_)
      generalize wr.drew = w17 at HO_5 BK176 HB hx185_0 hx185_1 hx185_2 hHeld ⊢
      refine Xpu 0 25 (XW.bs 11 1) HT_.out ?_
      refine Xpu 1 26 (XW.bs 11 3) HT_.out ?_
      refine Xpu 2 27 (XW.bs 11 7) HT_.out ?_
      refine Xpu 3 28 (XW.bs 11 15) HT_.out ?_
      refine Xpu 4 29 (XW.bs 11 31) HT_.out ?_
      refine Xpu 5 30 (XW.bs 11 63) HT_.out ?_
      refine Xta 6 31 (XW.bs 11 127) HT_.out HW_.out hHeld ?_
      refine Xta 7 32 (XW.bs 11 255) HT_.out HW_.out hHeld ?_
      refine one_ (i := 8) (N := some 33) (XW.bs 11 511) rfl rfl (one_of HT_.out (by kernel_rfl)) (by decide) (fun K hK => ?_)
      refine goes_ Try.func116 (by kernel_rfl) rfl #[.agg #[.int .i64 ((rd_T38 l0 x7_1).f0), .int .i64 ((rd_T38 l0 x7_1).f1), .int .i64 ((rd_T38 l0 x7_1).f2)], .agg #[.int .i64 a1_0, .int .i64 a1_1, .int .i64 t178]] (by rfl) rfl rfl (by (try simp only [List.map_toArray, List.map_cons, List.map_nil]); first | done | rfl | (simp only [List.length_drop, List.length_take]; rfl)) ?_
      with_reducible refine (spec_l07Less.calls ((rd_T38 l0 x7_1).f0) ((rd_T38 l0 x7_1).f1) ((rd_T38 l0 x7_1).f2) a1_0 a1_1 t178 t186 _ A16.out).mono ?_
      rintro e w18 ⟨rfl, hb⟩
      refine ⟨_, rfl, ?_⟩
      replace HO_5 := Aside0.mk (Kd.R_below (Xq HO_5) hb)
      replace BK176 := Xbb BK176 hb
      replace HB := Aside0.mk (below_step Xi hb)
      (try clear hb)
      (try clear hb2)
      (try clear hk)
      (try clear hi)
      refine hK.out _ _ ⟨(blk_cell BK176.out 0).trans rfl, (blk_cell BK176.out 1).trans rfl, (blk_cell BK176.out 2).trans rfl, Xn hw185_0, Xn hw185_1, Xn hw185_2⟩ (fun hHeld => ?_)
      clear hK K
      refine Xno ?_
      refine Xpu 9 34 (XW.bs 11 1023) HT_.out ?_
      refine Xpu 10 35 (XW.bs 11 2047) HT_.out ?_
      refine done_ (done_of HT_.out (by kernel_rfl)) ?_
      try go_wp2_with (fail)
      go_meet
      case rel => exact ⟨_, (!t186), Xr, H', ⟨by have := HK1.out; first | omega | exact Nat.le_refl _⟩, (Xp' HO_5), (Xp BK176), ⟨Xi⟩⟩
    case rest =>
     clear HC12
     (try clear c11); (try clear c11b0)
     obtain ⟨kq, x35_11, rfl, HA, HJ11, HO_5, BK176, HB⟩ := hcut
     cases kq with
     | zero => cases HA.out
     | succ kj11 =>
      have H := HA.out
      clear HA
      simp only [spec_l07Put.j1] at H
      by_cases c19 : x35_11 = true
      ·subst c19
       (first | rw [if_pos rfl] at H | skip)
       obtain ⟨c20, H⟩ := Xif H
       have LMc20 := Aside0.mk c20
       clear c20
       obtain ⟨y187, hy187⟩ : ∃ y_ : List (S38), y_ = (x5_1 ++ [(⟨a1_0, a1_1, t178⟩ : S38)]) := ⟨_, rfl⟩
       replace H : (if 0 ≤ x7_1 then (if x7_1 < (l0.length : Int) then (if ((rd_T38 l0 x7_1).f0) = a1_0 then (if ((rd_T38 l0 x7_1).f1) = a1_1 then (spec_l07Put.l0 kj11 l0 y187 true (wrap64 (x7_1 + 1)) a1_0 a1_1 t178) else (if y187.length < 5864062014805 then (spec_l07Put.l0 kj11 l0 (y187 ++ [(⟨(rd_T38 l0 x7_1).f0, (rd_T38 l0 x7_1).f1, (rd_T38 l0 x7_1).f2⟩ : S38)]) true (wrap64 (x7_1 + 1)) a1_0 a1_1 t178) else (none))) else (if y187.length < 5864062014805 then (spec_l07Put.l0 kj11 l0 (y187 ++ [(⟨(rd_T38 l0 x7_1).f0, (rd_T38 l0 x7_1).f1, (rd_T38 l0 x7_1).f2⟩ : S38)]) true (wrap64 (x7_1 + 1)) a1_0 a1_1 t178) else (none))) else (none)) else (none)) = some r := by first | (rw [hy187]; with_reducible exact H) | (have H2_ := (Option.bind_some _ _).symm.trans H; rw [hy187]; with_reducible exact H2_) | (have H2_ := (Option.bind_some _ _).symm.trans H; with_reducible exact H2_) | with_reducible exact H | (rw [hy187]; exact H) | exact H
       have Ny187 := Aside0.mk hy187
       clear hy187
       obtain ⟨c21b0, H⟩ := Xid H
       obtain ⟨c22b0, H⟩ := Xid H
       obtain ⟨c23, H⟩ | ⟨c23, H⟩ := Xiu H
       ·have c23b0 : (((rd_T38 l0 x7_1).f0) == a1_0) = true := beq_iff_eq.mpr c23
        have c23b1 : (((rd_T38 l0 x7_1).f0) != a1_0) = false := bne_eq_false_iff_eq.mpr c23
        clear c23
        have HC24 := Aside0.mk H
        clear H
        obtain ⟨hcz25_0, hcz25_1, hcz25_2⟩ := Xc3 BK176
        obtain ⟨hfz25_0, hfz25_1, hfz25_2⟩ := Xf3 BK176
        try go_wp2_with (first | ((with_reducible refine gate_builtin (b := .append) (xs := #[.tmp 36, .tmp 38]) rfl ?_); at_builtin; refine Kd.R_append k38 (w0 := w) w.heap.size rfl (.tmp 36) (.tmp 38) 30 38 (.agg #[(.int .i64 0), (.int .i64 0), (.int .i64 0)]) 24 rfl Try.underlying30 info38 rfl (by decide) (by omega) u5 x5_1 (⟨a1_0, a1_1, t178⟩ : S38) [.int .i64 a1_0, .int .i64 a1_1, .int .i64 t178] (fun k_ => k_ ≠ gb176) (fun _ => False) rfl rfl ?aP (fun _ hk => hk.elim) ?aF ?aO ?aB ?aS ?aL ?_; (case aP => exact k38_mkM _ _ _ (⟨a1_0, a1_1, t178⟩ : S38)); (case aB => exact Xi); (case aF => exact (fun k_ hk => Kd.freshB (g := gb176) (o := .cells #[.int .i64 a1_0, .int .i64 a1_1, .int .i64 t178] 38 (0, 0)) (Xq' BK176) k_ hk)); (case aO => exact (Xq HO_5)); (case aS => exact (below_size Xi)); (case aL => have := LMc20.out; omega); intro v188 w26 ho hb hg hat; rw [← Ny187.out] at ho; replace BK176 := Aside0.mk (blk_grown (g := gb176) (o := .cells #[.int .i64 a1_0, .int .i64 a1_1, .int .i64 t178] 38 (0, 0)) (Xq' BK176) hg (Kd.R_away HO_5.out (fun _ hk => hk))); replace HB := Aside0.mk (hb); have HO189 := Aside0.mk (ho); clear HO_5; clear ho hb hg hat))
        replace HO189 := Aside0.mk (Kd.R_drew HO189.out)
        replace BK176 := Aside0.mk (blk_drew BK176.out)
        replace HB := Aside0.mk (below_drew1 HB.out)
        have p190 : 0 ≤ (x7_1 : Int) := of_decide_eq_true Xa
        have q190 : x7_1 < (l0.length : Int) := of_decide_eq_true Xa
        obtain ⟨ad190, e190, hx190_0, hx190_1, hx190_2⟩ := at_T38 HR0.out x7_1 p190 q190
        have hw190_2 := hx190_2
        have hw190_1 := hx190_1
        have hw190_0 := hx190_0
        cases e190
        replace hx190_0 := Xm HB hx190_0
        replace hx190_1 := Xm HB hx190_1
        replace hx190_2 := Xm HB hx190_2
        replace p190 := eq_true p190
        replace q190 := eq_true q190
        have p191 : 0 ≤ (x7_1 : Int) := of_decide_eq_true Xa
        have q191 : x7_1 < (l0.length : Int) := of_decide_eq_true Xa
        obtain ⟨ad191, e191, hx191_0, hx191_1, hx191_2⟩ := at_T38 HR0.out x7_1 p191 q191
        have hw191_2 := hx191_2
        have hw191_1 := hx191_1
        have hw191_0 := hx191_0
        obtain rfl : ad190 = ad191 := (by injection e191)
        replace hx191_0 := Xm HB hx191_0
        replace hx191_1 := Xm HB hx191_1
        replace hx191_2 := Xm HB hx191_2
        replace p191 := eq_true p191
        replace q191 := eq_true q191
        refine start_ (n := 18) (S := fun w' => w'.cell? ⟨gb176, 0, none⟩ = some (.int .i64 a1_0) ∧ w'.cell? ⟨gb176, 1, none⟩ = some (.int .i64 a1_1) ∧ w'.cell? ⟨gb176, 2, none⟩ = some (.int .i64 t178) ∧ w'.cell? (ad190.add ((x7_1).toNat * 3)) = some (.int .i64 ((rd_T38 l0 x7_1).f0)) ∧ w'.cell? ⟨(ad190.add ((x7_1).toNat * 3)).block, (ad190.add ((x7_1).toNat * 3)).off + 1, none⟩ = some (.int .i64 ((rd_T38 l0 x7_1).f1)) ∧ w'.cell? ⟨(ad190.add ((x7_1).toNat * 3)).block, (ad190.add ((x7_1).toNat * 3)).off + 2, none⟩ = some (.int .i64 ((rd_T38 l0 x7_1).f2)) ∧ w'.cell? (ad190.add ((x7_1).toNat * 3)) = some (.int .i64 ((rd_T38 l0 x7_1).f0)) ∧ w'.cell? ⟨(ad190.add ((x7_1).toNat * 3)).block, (ad190.add ((x7_1).toNat * 3)).off + 1, none⟩ = some (.int .i64 ((rd_T38 l0 x7_1).f1)) ∧ w'.cell? ⟨(ad190.add ((x7_1).toNat * 3)).block, (ad190.add ((x7_1).toNat * 3)).off + 2, none⟩ = some (.int .i64 ((rd_T38 l0 x7_1).f2))) (ds := []) #[false, false, false, false, false, false, false, false, false, false, false, false, false, false, false, false, false, false] (by kernel_rfl) rfl rfl ⟨(blk_cell BK176.out 0).trans rfl, (blk_cell BK176.out 1).trans rfl, (blk_cell BK176.out 2).trans rfl, Xn hw190_0, Xn hw190_1, Xn hw190_2, Xn hw191_0, Xn hw191_1, Xn hw191_2⟩ (fun hHeld => ?_); refine with_tabW spec_l07Put.tab10 spec_l07Put.bits10 (fun HT_ HW_ => ?_)
        generalize w26.drew = w27 at HO189 BK176 HB hx190_0 hx190_1 hx190_2 hx191_0 hx191_1 hx191_2 hHeld ⊢
        refine Xpu 0 40 (XW.bs 18 1) HT_.out ?_
        refine Xpu 1 41 (XW.bs 18 3) HT_.out ?_
        refine Xpu 2 42 (XW.bs 18 7) HT_.out ?_
        refine Xpu 3 43 (XW.bs 18 15) HT_.out ?_
        refine Xpu 5 45 (XW.bs 18 47) HT_.out ?_
        refine Xta 4 44 (XW.bs 18 63) HT_.out HW_.out hHeld ?_
        refine Xta 6 46 (XW.bs 18 127) HT_.out HW_.out hHeld ?_
        refine Xpu 7 47 (XW.bs 18 255) HT_.out ?_
        refine Xpu 8 48 (XW.bs 18 511) HT_.out ?_
        refine Xpu 9 49 (XW.bs 18 1023) HT_.out ?_
        refine Xpu 10 50 (XW.bs 18 2047) HT_.out ?_
        refine Xpu 11 51 (XW.bs 18 4095) HT_.out ?_
        refine Xpu 12 52 (XW.bs 18 8191) HT_.out ?_
        refine Xpu 14 54 (XW.bs 18 24575) HT_.out ?_
        refine Xta 13 53 (XW.bs 18 32767) HT_.out HW_.out hHeld ?_
        refine Xta 15 55 (XW.bs 18 65535) HT_.out HW_.out hHeld ?_
        refine Xpu 16 56 (XW.bs 18 131071) HT_.out ?_
        refine Xpu 17 57 (XW.bs 18 262143) HT_.out ?_
        refine done_ (done_of HT_.out (by kernel_rfl)) ?_
        go_upto_if 57 with (fail)
        have H := HC24.out
        clear HC24
        obtain ⟨c28, H⟩ | ⟨c28, H⟩ := Xiu H
        ·have c28b0 : (((rd_T38 l0 x7_1).f1) == a1_1) = true := beq_iff_eq.mpr c28
         have c28b1 : (((rd_T38 l0 x7_1).f1) != a1_1) = false := bne_eq_false_iff_eq.mpr c28
         clear c28
         (first | rw [c28b0] | (simp only [i64_w, i32_w]; rw [c28b0]) | skip)
         have H' := Aside0.mk H
         clear H
         go_wp2
         go_roundg kj11
         case measure => have := HK1.out; have := HJ11.out; omega
         case rel => exact ⟨(y187), (true), (wrap64 (x7_1 + 1)), Xr, Xr, H', ⟨by have := HK1.out; have := HJ11.out; omega⟩, (Xp' HO189), (Xp BK176), ⟨Xi⟩⟩
        ·have c28b0 : (((rd_T38 l0 x7_1).f1) == a1_1) = false := beq_eq_false_iff_ne.mpr c28
         have c28b1 : (((rd_T38 l0 x7_1).f1) != a1_1) = true := bne_iff_ne.mpr c28
         (first | rw [c28b0] | (simp only [i64_w, i32_w]; rw [c28b0]) | skip)
         obtain ⟨c29, H⟩ := Xif H
         have LMc29 := Aside0.mk c29
         clear c29
         obtain ⟨y193, hy193⟩ : ∃ y_ : List (S38), y_ = (y187 ++ [(⟨(rd_T38 l0 x7_1).f0, (rd_T38 l0 x7_1).f1, (rd_T38 l0 x7_1).f2⟩ : S38)]) := ⟨_, rfl⟩
         replace H : (spec_l07Put.l0 kj11 l0 y193 true (wrap64 (x7_1 + 1)) a1_0 a1_1 t178) = some r := by first | (rw [hy193]; with_reducible exact H) | (have H2_ := (Option.bind_some _ _).symm.trans H; rw [hy193]; with_reducible exact H2_) | (have H2_ := (Option.bind_some _ _).symm.trans H; with_reducible exact H2_) | with_reducible exact H | (rw [hy193]; exact H) | exact H
         have Ny193 := Aside0.mk hy193
         clear hy193
         have H' := Aside0.mk H
         clear H
         obtain ⟨ad192, e192, p192, q192, hx192_0, hx192_1, hx192_2⟩ := at_B38 HR0 x7_1 Xa Xa HB
         obtain rfl : ad190 = ad192 := (by injection e192)
         go_wp2_with (first | ((with_reducible refine gate_builtin (b := .append) (xs := #[.tmp 58, .tmp 63]) rfl ?_); at_builtin; refine Kd.R_append k38 (w0 := w) w.heap.size rfl (.tmp 58) (.tmp 63) 30 38 (.agg #[(.int .i64 0), (.int .i64 0), (.int .i64 0)]) 24 rfl Try.underlying30 info38 rfl (by decide) (by omega) v188 y187 (⟨(rd_T38 l0 x7_1).f0, (rd_T38 l0 x7_1).f1, (rd_T38 l0 x7_1).f2⟩ : S38) [.int .i64 ((rd_T38 l0 x7_1).f0), .int .i64 ((rd_T38 l0 x7_1).f1), .int .i64 ((rd_T38 l0 x7_1).f2)] (fun k_ => k_ ≠ gb176) (fun _ => False) rfl rfl ?aP (fun _ hk => hk.elim) ?aF ?aO ?aB ?aS ?aL ?_; (case aP => exact k38_mkM _ _ _ (⟨(rd_T38 l0 x7_1).f0, (rd_T38 l0 x7_1).f1, (rd_T38 l0 x7_1).f2⟩ : S38)); (case aB => exact Xi); (case aF => exact (fun k_ hk => Kd.freshB (g := gb176) (o := .cells #[.int .i64 a1_0, .int .i64 a1_1, .int .i64 t178] 38 (0, 0)) (Xq' BK176) k_ hk)); (case aO => exact (Xq HO189)); (case aS => exact (below_size Xi)); (case aL => have := LMc29.out; omega); intro v194 w30 ho hb hg hat; rw [← Ny193.out] at ho; replace BK176 := Aside0.mk (blk_grown (g := gb176) (o := .cells #[.int .i64 a1_0, .int .i64 a1_1, .int .i64 t178] 38 (0, 0)) (Xq' BK176) hg (Kd.R_away HO189.out (fun _ hk => hk))); replace HB := Aside0.mk (hb); have HO195 := Aside0.mk (ho); clear HO189; clear ho hb hg hat))
         go_roundg kj11
         case measure => have := HK1.out; have := HJ11.out; omega
         case rel => exact ⟨(y193), (true), (wrap64 (x7_1 + 1)), Xr, Xr, H', ⟨by have := HK1.out; have := HJ11.out; omega⟩, (Xp' HO195), (Xp BK176), ⟨Xi⟩⟩
       ·have c23b0 : (((rd_T38 l0 x7_1).f0) == a1_0) = false := beq_eq_false_iff_ne.mpr c23
        have c23b1 : (((rd_T38 l0 x7_1).f0) != a1_0) = true := bne_iff_ne.mpr c23
        obtain ⟨c31, H⟩ := Xif H
        have LMc31 := Aside0.mk c31
        clear c31
        obtain ⟨y197, hy197⟩ : ∃ y_ : List (S38), y_ = (y187 ++ [(⟨(rd_T38 l0 x7_1).f0, (rd_T38 l0 x7_1).f1, (rd_T38 l0 x7_1).f2⟩ : S38)]) := ⟨_, rfl⟩
        replace H : (spec_l07Put.l0 kj11 l0 y197 true (wrap64 (x7_1 + 1)) a1_0 a1_1 t178) = some r := by first | (rw [hy197]; with_reducible exact H) | (have H2_ := (Option.bind_some _ _).symm.trans H; rw [hy197]; with_reducible exact H2_) | (have H2_ := (Option.bind_some _ _).symm.trans H; with_reducible exact H2_) | with_reducible exact H | (rw [hy197]; exact H) | exact H
        have Ny197 := Aside0.mk hy197
        clear hy197
        have H' := Aside0.mk H
        clear H
        obtain ⟨hcz32_0, hcz32_1, hcz32_2⟩ := Xc3 BK176
        obtain ⟨hfz32_0, hfz32_1, hfz32_2⟩ := Xf3 BK176
        try go_wp2_with (first | ((with_reducible refine gate_builtin (b := .append) (xs := #[.tmp 36, .tmp 38]) rfl ?_); at_builtin; refine Kd.R_append k38 (w0 := w) w.heap.size rfl (.tmp 36) (.tmp 38) 30 38 (.agg #[(.int .i64 0), (.int .i64 0), (.int .i64 0)]) 24 rfl Try.underlying30 info38 rfl (by decide) (by omega) u5 x5_1 (⟨a1_0, a1_1, t178⟩ : S38) [.int .i64 a1_0, .int .i64 a1_1, .int .i64 t178] (fun k_ => k_ ≠ gb176) (fun _ => False) rfl rfl ?aP (fun _ hk => hk.elim) ?aF ?aO ?aB ?aS ?aL ?_; (case aP => exact k38_mkM _ _ _ (⟨a1_0, a1_1, t178⟩ : S38)); (case aB => exact Xi); (case aF => exact (fun k_ hk => Kd.freshB (g := gb176) (o := .cells #[.int .i64 a1_0, .int .i64 a1_1, .int .i64 t178] 38 (0, 0)) (Xq' BK176) k_ hk)); (case aO => exact (Xq HO_5)); (case aS => exact (below_size Xi)); (case aL => have := LMc20.out; omega); intro v188 w33 ho hb hg hat; rw [← Ny187.out] at ho; replace BK176 := Aside0.mk (blk_grown (g := gb176) (o := .cells #[.int .i64 a1_0, .int .i64 a1_1, .int .i64 t178] 38 (0, 0)) (Xq' BK176) hg (Kd.R_away HO_5.out (fun _ hk => hk))); replace HB := Aside0.mk (hb); have HO189 := Aside0.mk (ho); clear HO_5; clear ho hb hg hat))
        replace HO189 := Aside0.mk (Kd.R_drew HO189.out)
        replace BK176 := Aside0.mk (blk_drew BK176.out)
        replace HB := Aside0.mk (below_drew1 HB.out)
        have p190 : 0 ≤ (x7_1 : Int) := of_decide_eq_true Xa
        have q190 : x7_1 < (l0.length : Int) := of_decide_eq_true Xa
        obtain ⟨ad190, e190, hx190_0, hx190_1, hx190_2⟩ := at_T38 HR0.out x7_1 p190 q190
        have hw190_2 := hx190_2
        have hw190_1 := hx190_1
        have hw190_0 := hx190_0
        cases e190
        replace hx190_0 := Xm HB hx190_0
        replace hx190_1 := Xm HB hx190_1
        replace hx190_2 := Xm HB hx190_2
        replace p190 := eq_true p190
        replace q190 := eq_true q190
        refine start_ (n := 18) (S := fun w' => w'.cell? ⟨gb176, 0, none⟩ = some (.int .i64 a1_0) ∧ w'.cell? ⟨gb176, 1, none⟩ = some (.int .i64 a1_1) ∧ w'.cell? ⟨gb176, 2, none⟩ = some (.int .i64 t178) ∧ w'.cell? (ad190.add ((x7_1).toNat * 3)) = some (.int .i64 ((rd_T38 l0 x7_1).f0)) ∧ w'.cell? ⟨(ad190.add ((x7_1).toNat * 3)).block, (ad190.add ((x7_1).toNat * 3)).off + 1, none⟩ = some (.int .i64 ((rd_T38 l0 x7_1).f1)) ∧ w'.cell? ⟨(ad190.add ((x7_1).toNat * 3)).block, (ad190.add ((x7_1).toNat * 3)).off + 2, none⟩ = some (.int .i64 ((rd_T38 l0 x7_1).f2))) (ds := []) #[false, false, false, false, false, false, false, false, false, false, false, false, false, false, false, false, false, false] (by kernel_rfl) rfl rfl ⟨(blk_cell BK176.out 0).trans rfl, (blk_cell BK176.out 1).trans rfl, (blk_cell BK176.out 2).trans rfl, Xn hw190_0, Xn hw190_1, Xn hw190_2⟩ (fun hHeld => ?_); refine with_tabW spec_l07Put.tab10 spec_l07Put.bits10 (fun HT_ HW_ => ?_)
        generalize w33.drew = w34 at HO189 BK176 HB hx190_0 hx190_1 hx190_2 hHeld ⊢
        refine Xpu 0 40 (XW.bs 18 1) HT_.out ?_
        refine Xpu 1 41 (XW.bs 18 3) HT_.out ?_
        refine Xpu 2 42 (XW.bs 18 7) HT_.out ?_
        refine Xpu 3 43 (XW.bs 18 15) HT_.out ?_
        refine Xpu 5 45 (XW.bs 18 47) HT_.out ?_
        refine Xta 4 44 (XW.bs 18 63) HT_.out HW_.out hHeld ?_
        refine Xta 6 46 (XW.bs 18 127) HT_.out HW_.out hHeld ?_
        refine Xpu 7 47 (XW.bs 18 255) HT_.out ?_
        refine Xpu 8 48 (XW.bs 18 511) HT_.out ?_
        refine Xpn 9 49 (XW.bs 18 1023) HT_.out ?_
        refine Xpn 10 50 (XW.bs 18 2047) HT_.out ?_
        refine Xpn 11 51 (XW.bs 18 4095) HT_.out ?_
        refine Xpn 12 52 (XW.bs 18 8191) HT_.out ?_
        refine Xpn 13 53 (XW.bs 18 16383) HT_.out ?_
        refine Xpn 14 54 (XW.bs 18 32767) HT_.out ?_
        refine Xpn 15 55 (XW.bs 18 65535) HT_.out ?_
        refine Xpn 16 56 (XW.bs 18 131071) HT_.out ?_
        refine Xpu 17 57 (XW.bs 18 262143) HT_.out ?_
        refine done_ (done_of HT_.out (by kernel_rfl)) ?_
        obtain ⟨ad196, e196, p196, q196, hx196_0, hx196_1, hx196_2⟩ := at_B38 HR0 x7_1 Xa Xa HB
        obtain rfl : ad190 = ad196 := (by injection e196)
        try go_wp2_with (first | ((with_reducible refine gate_builtin (b := .append) (xs := #[.tmp 58, .tmp 63]) rfl ?_); at_builtin; refine Kd.R_append k38 (w0 := w) w.heap.size rfl (.tmp 58) (.tmp 63) 30 38 (.agg #[(.int .i64 0), (.int .i64 0), (.int .i64 0)]) 24 rfl Try.underlying30 info38 rfl (by decide) (by omega) v188 y187 (⟨(rd_T38 l0 x7_1).f0, (rd_T38 l0 x7_1).f1, (rd_T38 l0 x7_1).f2⟩ : S38) [.int .i64 ((rd_T38 l0 x7_1).f0), .int .i64 ((rd_T38 l0 x7_1).f1), .int .i64 ((rd_T38 l0 x7_1).f2)] (fun k_ => k_ ≠ gb176) (fun _ => False) rfl rfl ?aP (fun _ hk => hk.elim) ?aF ?aO ?aB ?aS ?aL ?_; (case aP => exact k38_mkM _ _ _ (⟨(rd_T38 l0 x7_1).f0, (rd_T38 l0 x7_1).f1, (rd_T38 l0 x7_1).f2⟩ : S38)); (case aB => exact Xi); (case aF => exact (fun k_ hk => Kd.freshB (g := gb176) (o := .cells #[.int .i64 a1_0, .int .i64 a1_1, .int .i64 t178] 38 (0, 0)) (Xq' BK176) k_ hk)); (case aO => exact (Xq HO189)); (case aS => exact (below_size Xi)); (case aL => have := LMc31.out; omega); intro v198 w35 ho hb hg hat; rw [← Ny197.out] at ho; replace BK176 := Aside0.mk (blk_grown (g := gb176) (o := .cells #[.int .i64 a1_0, .int .i64 a1_1, .int .i64 t178] 38 (0, 0)) (Xq' BK176) hg (Kd.R_away HO189.out (fun _ hk => hk))); replace HB := Aside0.mk (hb); have HO199 := Aside0.mk (ho); clear HO189; clear ho hb hg hat))
        go_roundg kj11
        case measure => have := HK1.out; have := HJ11.out; omega
        case rel => exact ⟨(y197), (true), (wrap64 (x7_1 + 1)), Xr, Xr, H', ⟨by have := HK1.out; have := HJ11.out; omega⟩, (Xp' HO199), (Xp BK176), ⟨Xi⟩⟩
      ·replace c19 := Bool.eq_false_iff.mpr c19
       subst c19
       (first | rw [if_neg (show ¬ (false = true) by decide)] at H | skip)
       obtain ⟨c36b0, H⟩ := Xid H
       obtain ⟨c37b0, H⟩ := Xid H
       obtain ⟨c38, H⟩ | ⟨c38, H⟩ := Xiu H
       ·have c38b0 : (((rd_T38 l0 x7_1).f0) == a1_0) = true := beq_iff_eq.mpr c38
        have c38b1 : (((rd_T38 l0 x7_1).f0) != a1_0) = false := bne_eq_false_iff_eq.mpr c38
        clear c38
        obtain ⟨c39, H⟩ | ⟨c39, H⟩ := Xiu H
        ·have c39b0 : (((rd_T38 l0 x7_1).f1) == a1_1) = true := beq_iff_eq.mpr c39
         have c39b1 : (((rd_T38 l0 x7_1).f1) != a1_1) = false := bne_eq_false_iff_eq.mpr c39
         clear c39
         have H' := Aside0.mk H
         clear H
         try go_wp2_with (fail)
         replace HO_5 := Aside0.mk (Kd.R_drew HO_5.out)
         replace BK176 := Aside0.mk (blk_drew BK176.out)
         replace HB := Aside0.mk (below_drew1 HB.out)
         have p200 : 0 ≤ (x7_1 : Int) := of_decide_eq_true Xa
         have q200 : x7_1 < (l0.length : Int) := of_decide_eq_true Xa
         obtain ⟨ad200, e200, hx200_0, hx200_1, hx200_2⟩ := at_T38 HR0.out x7_1 p200 q200
         have hw200_2 := hx200_2
         have hw200_1 := hx200_1
         have hw200_0 := hx200_0
         cases e200
         replace hx200_0 := Xm HB hx200_0
         replace hx200_1 := Xm HB hx200_1
         replace hx200_2 := Xm HB hx200_2
         replace p200 := eq_true p200
         replace q200 := eq_true q200
         have p201 : 0 ≤ (x7_1 : Int) := of_decide_eq_true Xa
         have q201 : x7_1 < (l0.length : Int) := of_decide_eq_true Xa
         obtain ⟨ad201, e201, hx201_0, hx201_1, hx201_2⟩ := at_T38 HR0.out x7_1 p201 q201
         have hw201_2 := hx201_2
         have hw201_1 := hx201_1
         have hw201_0 := hx201_0
         obtain rfl : ad200 = ad201 := (by injection e201)
         replace hx201_0 := Xm HB hx201_0
         replace hx201_1 := Xm HB hx201_1
         replace hx201_2 := Xm HB hx201_2
         replace p201 := eq_true p201
         replace q201 := eq_true q201
         refine start_ (n := 18) (S := fun w' => w'.cell? ⟨gb176, 0, none⟩ = some (.int .i64 a1_0) ∧ w'.cell? ⟨gb176, 1, none⟩ = some (.int .i64 a1_1) ∧ w'.cell? ⟨gb176, 2, none⟩ = some (.int .i64 t178) ∧ w'.cell? (ad200.add ((x7_1).toNat * 3)) = some (.int .i64 ((rd_T38 l0 x7_1).f0)) ∧ w'.cell? ⟨(ad200.add ((x7_1).toNat * 3)).block, (ad200.add ((x7_1).toNat * 3)).off + 1, none⟩ = some (.int .i64 ((rd_T38 l0 x7_1).f1)) ∧ w'.cell? ⟨(ad200.add ((x7_1).toNat * 3)).block, (ad200.add ((x7_1).toNat * 3)).off + 2, none⟩ = some (.int .i64 ((rd_T38 l0 x7_1).f2)) ∧ w'.cell? (ad200.add ((x7_1).toNat * 3)) = some (.int .i64 ((rd_T38 l0 x7_1).f0)) ∧ w'.cell? ⟨(ad200.add ((x7_1).toNat * 3)).block, (ad200.add ((x7_1).toNat * 3)).off + 1, none⟩ = some (.int .i64 ((rd_T38 l0 x7_1).f1)) ∧ w'.cell? ⟨(ad200.add ((x7_1).toNat * 3)).block, (ad200.add ((x7_1).toNat * 3)).off + 2, none⟩ = some (.int .i64 ((rd_T38 l0 x7_1).f2))) (ds := []) #[false, false, false, false, false, false, false, false, false, false, false, false, false, false, false, false, false, false] (by kernel_rfl) rfl rfl ⟨(blk_cell BK176.out 0).trans rfl, (blk_cell BK176.out 1).trans rfl, (blk_cell BK176.out 2).trans rfl, Xn hw200_0, Xn hw200_1, Xn hw200_2, Xn hw201_0, Xn hw201_1, Xn hw201_2⟩ (fun hHeld => ?_); refine with_tabW spec_l07Put.tab10 spec_l07Put.bits10 (fun HT_ HW_ => ?_)
         generalize wc.drew = w40 at HO_5 BK176 HB hx200_0 hx200_1 hx200_2 hx201_0 hx201_1 hx201_2 hHeld ⊢
         refine Xpu 0 40 (XW.bs 18 1) HT_.out ?_
         refine Xpu 1 41 (XW.bs 18 3) HT_.out ?_
         refine Xpu 2 42 (XW.bs 18 7) HT_.out ?_
         refine Xpu 3 43 (XW.bs 18 15) HT_.out ?_
         refine Xpu 5 45 (XW.bs 18 47) HT_.out ?_
         refine Xta 4 44 (XW.bs 18 63) HT_.out HW_.out hHeld ?_
         refine Xta 6 46 (XW.bs 18 127) HT_.out HW_.out hHeld ?_
         refine Xpu 7 47 (XW.bs 18 255) HT_.out ?_
         refine Xpu 8 48 (XW.bs 18 511) HT_.out ?_
         refine Xpu 9 49 (XW.bs 18 1023) HT_.out ?_
         refine Xpu 10 50 (XW.bs 18 2047) HT_.out ?_
         refine Xpu 11 51 (XW.bs 18 4095) HT_.out ?_
         refine Xpu 12 52 (XW.bs 18 8191) HT_.out ?_
         refine Xpu 14 54 (XW.bs 18 24575) HT_.out ?_
         refine Xta 13 53 (XW.bs 18 32767) HT_.out HW_.out hHeld ?_
         refine Xta 15 55 (XW.bs 18 65535) HT_.out HW_.out hHeld ?_
         refine Xpu 16 56 (XW.bs 18 131071) HT_.out ?_
         refine Xpu 17 57 (XW.bs 18 262143) HT_.out ?_
         refine done_ (done_of HT_.out (by kernel_rfl)) ?_
         try go_wp2_with (fail)
         go_roundg kj11
         case measure => have := HK1.out; have := HJ11.out; omega
         case rel => exact ⟨(x5_1), (x6_1), (wrap64 (x7_1 + 1)), Xr, Xr, H', ⟨by have := HK1.out; have := HJ11.out; omega⟩, (Xp' HO_5), (Xp BK176), ⟨Xi⟩⟩
        ·have c39b0 : (((rd_T38 l0 x7_1).f1) == a1_1) = false := beq_eq_false_iff_ne.mpr c39
         have c39b1 : (((rd_T38 l0 x7_1).f1) != a1_1) = true := bne_iff_ne.mpr c39
         obtain ⟨c41, H⟩ := Xif H
         have LMc41 := Aside0.mk c41
         clear c41
         obtain ⟨y203, hy203⟩ : ∃ y_ : List (S38), y_ = (x5_1 ++ [(⟨(rd_T38 l0 x7_1).f0, (rd_T38 l0 x7_1).f1, (rd_T38 l0 x7_1).f2⟩ : S38)]) := ⟨_, rfl⟩
         replace H : (spec_l07Put.l0 kj11 l0 y203 x6_1 (wrap64 (x7_1 + 1)) a1_0 a1_1 t178) = some r := by first | (rw [hy203]; with_reducible exact H) | (have H2_ := (Option.bind_some _ _).symm.trans H; rw [hy203]; with_reducible exact H2_) | (have H2_ := (Option.bind_some _ _).symm.trans H; with_reducible exact H2_) | with_reducible exact H | (rw [hy203]; exact H) | exact H
         have Ny203 := Aside0.mk hy203
         clear hy203
         have H' := Aside0.mk H
         clear H
         try go_wp2_with (fail)
         replace HO_5 := Aside0.mk (Kd.R_drew HO_5.out)
         replace BK176 := Aside0.mk (blk_drew BK176.out)
         replace HB := Aside0.mk (below_drew1 HB.out)
         have p200 : 0 ≤ (x7_1 : Int) := of_decide_eq_true Xa
         have q200 : x7_1 < (l0.length : Int) := of_decide_eq_true Xa
         obtain ⟨ad200, e200, hx200_0, hx200_1, hx200_2⟩ := at_T38 HR0.out x7_1 p200 q200
         have hw200_2 := hx200_2
         have hw200_1 := hx200_1
         have hw200_0 := hx200_0
         cases e200
         replace hx200_0 := Xm HB hx200_0
         replace hx200_1 := Xm HB hx200_1
         replace hx200_2 := Xm HB hx200_2
         replace p200 := eq_true p200
         replace q200 := eq_true q200
         have p201 : 0 ≤ (x7_1 : Int) := of_decide_eq_true Xa
         have q201 : x7_1 < (l0.length : Int) := of_decide_eq_true Xa
         obtain ⟨ad201, e201, hx201_0, hx201_1, hx201_2⟩ := at_T38 HR0.out x7_1 p201 q201
         have hw201_2 := hx201_2
         have hw201_1 := hx201_1
         have hw201_0 := hx201_0
         obtain rfl : ad200 = ad201 := (by injection e201)
         replace hx201_0 := Xm HB hx201_0
         replace hx201_1 := Xm HB hx201_1
         replace hx201_2 := Xm HB hx201_2
         replace p201 := eq_true p201
         replace q201 := eq_true q201
         refine start_ (n := 18) (S := fun w' => w'.cell? ⟨gb176, 0, none⟩ = some (.int .i64 a1_0) ∧ w'.cell? ⟨gb176, 1, none⟩ = some (.int .i64 a1_1) ∧ w'.cell? ⟨gb176, 2, none⟩ = some (.int .i64 t178) ∧ w'.cell? (ad200.add ((x7_1).toNat * 3)) = some (.int .i64 ((rd_T38 l0 x7_1).f0)) ∧ w'.cell? ⟨(ad200.add ((x7_1).toNat * 3)).block, (ad200.add ((x7_1).toNat * 3)).off + 1, none⟩ = some (.int .i64 ((rd_T38 l0 x7_1).f1)) ∧ w'.cell? ⟨(ad200.add ((x7_1).toNat * 3)).block, (ad200.add ((x7_1).toNat * 3)).off + 2, none⟩ = some (.int .i64 ((rd_T38 l0 x7_1).f2)) ∧ w'.cell? (ad200.add ((x7_1).toNat * 3)) = some (.int .i64 ((rd_T38 l0 x7_1).f0)) ∧ w'.cell? ⟨(ad200.add ((x7_1).toNat * 3)).block, (ad200.add ((x7_1).toNat * 3)).off + 1, none⟩ = some (.int .i64 ((rd_T38 l0 x7_1).f1)) ∧ w'.cell? ⟨(ad200.add ((x7_1).toNat * 3)).block, (ad200.add ((x7_1).toNat * 3)).off + 2, none⟩ = some (.int .i64 ((rd_T38 l0 x7_1).f2))) (ds := []) #[false, false, false, false, false, false, false, false, false, false, false, false, false, false, false, false, false, false] (by kernel_rfl) rfl rfl ⟨(blk_cell BK176.out 0).trans rfl, (blk_cell BK176.out 1).trans rfl, (blk_cell BK176.out 2).trans rfl, Xn hw200_0, Xn hw200_1, Xn hw200_2, Xn hw201_0, Xn hw201_1, Xn hw201_2⟩ (fun hHeld => ?_); refine with_tabW spec_l07Put.tab10 spec_l07Put.bits10 (fun HT_ HW_ => ?_)
         generalize wc.drew = w42 at HO_5 BK176 HB hx200_0 hx200_1 hx200_2 hx201_0 hx201_1 hx201_2 hHeld ⊢
         refine Xpu 0 40 (XW.bs 18 1) HT_.out ?_
         refine Xpu 1 41 (XW.bs 18 3) HT_.out ?_
         refine Xpu 2 42 (XW.bs 18 7) HT_.out ?_
         refine Xpu 3 43 (XW.bs 18 15) HT_.out ?_
         refine Xpu 5 45 (XW.bs 18 47) HT_.out ?_
         refine Xta 4 44 (XW.bs 18 63) HT_.out HW_.out hHeld ?_
         refine Xta 6 46 (XW.bs 18 127) HT_.out HW_.out hHeld ?_
         refine Xpu 7 47 (XW.bs 18 255) HT_.out ?_
         refine Xpu 8 48 (XW.bs 18 511) HT_.out ?_
         refine Xpu 9 49 (XW.bs 18 1023) HT_.out ?_
         refine Xpu 10 50 (XW.bs 18 2047) HT_.out ?_
         refine Xpu 11 51 (XW.bs 18 4095) HT_.out ?_
         refine Xpu 12 52 (XW.bs 18 8191) HT_.out ?_
         refine Xpu 14 54 (XW.bs 18 24575) HT_.out ?_
         refine Xta 13 53 (XW.bs 18 32767) HT_.out HW_.out hHeld ?_
         refine Xta 15 55 (XW.bs 18 65535) HT_.out HW_.out hHeld ?_
         refine Xpu 16 56 (XW.bs 18 131071) HT_.out ?_
         refine Xpu 17 57 (XW.bs 18 262143) HT_.out ?_
         refine done_ (done_of HT_.out (by kernel_rfl)) ?_
         obtain ⟨ad202, e202, p202, q202, hx202_0, hx202_1, hx202_2⟩ := at_B38 HR0 x7_1 Xa Xa HB
         obtain rfl : ad200 = ad202 := (by injection e202)
         try go_wp2_with (first | ((with_reducible refine gate_builtin (b := .append) (xs := #[.tmp 58, .tmp 63]) rfl ?_); at_builtin; refine Kd.R_append k38 (w0 := w) w.heap.size rfl (.tmp 58) (.tmp 63) 30 38 (.agg #[(.int .i64 0), (.int .i64 0), (.int .i64 0)]) 24 rfl Try.underlying30 info38 rfl (by decide) (by omega) u5 x5_1 (⟨(rd_T38 l0 x7_1).f0, (rd_T38 l0 x7_1).f1, (rd_T38 l0 x7_1).f2⟩ : S38) [.int .i64 ((rd_T38 l0 x7_1).f0), .int .i64 ((rd_T38 l0 x7_1).f1), .int .i64 ((rd_T38 l0 x7_1).f2)] (fun k_ => k_ ≠ gb176) (fun _ => False) rfl rfl ?aP (fun _ hk => hk.elim) ?aF ?aO ?aB ?aS ?aL ?_; (case aP => exact k38_mkM _ _ _ (⟨(rd_T38 l0 x7_1).f0, (rd_T38 l0 x7_1).f1, (rd_T38 l0 x7_1).f2⟩ : S38)); (case aB => exact Xi); (case aF => exact (fun k_ hk => Kd.freshB (g := gb176) (o := .cells #[.int .i64 a1_0, .int .i64 a1_1, .int .i64 t178] 38 (0, 0)) (Xq' BK176) k_ hk)); (case aO => exact (Xq HO_5)); (case aS => exact (below_size Xi)); (case aL => have := LMc41.out; omega); intro v204 w43 ho hb hg hat; rw [← Ny203.out] at ho; replace BK176 := Aside0.mk (blk_grown (g := gb176) (o := .cells #[.int .i64 a1_0, .int .i64 a1_1, .int .i64 t178] 38 (0, 0)) (Xq' BK176) hg (Kd.R_away HO_5.out (fun _ hk => hk))); replace HB := Aside0.mk (hb); have HO205 := Aside0.mk (ho); clear HO_5; clear ho hb hg hat))
         go_roundg kj11
         case measure => have := HK1.out; have := HJ11.out; omega
         case rel => exact ⟨(y203), (x6_1), (wrap64 (x7_1 + 1)), Xr, Xr, H', ⟨by have := HK1.out; have := HJ11.out; omega⟩, (Xp' HO205), (Xp BK176), ⟨Xi⟩⟩
       ·have c38b0 : (((rd_T38 l0 x7_1).f0) == a1_0) = false := beq_eq_false_iff_ne.mpr c38
        have c38b1 : (((rd_T38 l0 x7_1).f0) != a1_0) = true := bne_iff_ne.mpr c38
        obtain ⟨c44, H⟩ := Xif H
        have LMc44 := Aside0.mk c44
        clear c44
        obtain ⟨y207, hy207⟩ : ∃ y_ : List (S38), y_ = (x5_1 ++ [(⟨(rd_T38 l0 x7_1).f0, (rd_T38 l0 x7_1).f1, (rd_T38 l0 x7_1).f2⟩ : S38)]) := ⟨_, rfl⟩
        replace H : (spec_l07Put.l0 kj11 l0 y207 x6_1 (wrap64 (x7_1 + 1)) a1_0 a1_1 t178) = some r := by first | (rw [hy207]; with_reducible exact H) | (have H2_ := (Option.bind_some _ _).symm.trans H; rw [hy207]; with_reducible exact H2_) | (have H2_ := (Option.bind_some _ _).symm.trans H; with_reducible exact H2_) | with_reducible exact H | (rw [hy207]; exact H) | exact H
        have Ny207 := Aside0.mk hy207
        clear hy207
        have H' := Aside0.mk H
        clear H
        try go_wp2_with (fail)
        replace HO_5 := Aside0.mk (Kd.R_drew HO_5.out)
        replace BK176 := Aside0.mk (blk_drew BK176.out)
        replace HB := Aside0.mk (below_drew1 HB.out)
        have p200 : 0 ≤ (x7_1 : Int) := of_decide_eq_true Xa
        have q200 : x7_1 < (l0.length : Int) := of_decide_eq_true Xa
        obtain ⟨ad200, e200, hx200_0, hx200_1, hx200_2⟩ := at_T38 HR0.out x7_1 p200 q200
        have hw200_2 := hx200_2
        have hw200_1 := hx200_1
        have hw200_0 := hx200_0
        cases e200
        replace hx200_0 := Xm HB hx200_0
        replace hx200_1 := Xm HB hx200_1
        replace hx200_2 := Xm HB hx200_2
        replace p200 := eq_true p200
        replace q200 := eq_true q200
        refine start_ (n := 18) (S := fun w' => w'.cell? ⟨gb176, 0, none⟩ = some (.int .i64 a1_0) ∧ w'.cell? ⟨gb176, 1, none⟩ = some (.int .i64 a1_1) ∧ w'.cell? ⟨gb176, 2, none⟩ = some (.int .i64 t178) ∧ w'.cell? (ad200.add ((x7_1).toNat * 3)) = some (.int .i64 ((rd_T38 l0 x7_1).f0)) ∧ w'.cell? ⟨(ad200.add ((x7_1).toNat * 3)).block, (ad200.add ((x7_1).toNat * 3)).off + 1, none⟩ = some (.int .i64 ((rd_T38 l0 x7_1).f1)) ∧ w'.cell? ⟨(ad200.add ((x7_1).toNat * 3)).block, (ad200.add ((x7_1).toNat * 3)).off + 2, none⟩ = some (.int .i64 ((rd_T38 l0 x7_1).f2))) (ds := []) #[false, false, false, false, false, false, false, false, false, false, false, false, false, false, false, false, false, false] (by kernel_rfl) rfl rfl ⟨(blk_cell BK176.out 0).trans rfl, (blk_cell BK176.out 1).trans rfl, (blk_cell BK176.out 2).trans rfl, Xn hw200_0, Xn hw200_1, Xn hw200_2⟩ (fun hHeld => ?_); refine with_tabW spec_l07Put.tab10 spec_l07Put.bits10 (fun HT_ HW_ => ?_)
        generalize wc.drew = w45 at HO_5 BK176 HB hx200_0 hx200_1 hx200_2 hHeld ⊢
        refine Xpu 0 40 (XW.bs 18 1) HT_.out ?_
        refine Xpu 1 41 (XW.bs 18 3) HT_.out ?_
        refine Xpu 2 42 (XW.bs 18 7) HT_.out ?_
        refine Xpu 3 43 (XW.bs 18 15) HT_.out ?_
        refine Xpu 5 45 (XW.bs 18 47) HT_.out ?_
        refine Xta 4 44 (XW.bs 18 63) HT_.out HW_.out hHeld ?_
        refine Xta 6 46 (XW.bs 18 127) HT_.out HW_.out hHeld ?_
        refine Xpu 7 47 (XW.bs 18 255) HT_.out ?_
        refine Xpu 8 48 (XW.bs 18 511) HT_.out ?_
        refine Xpn 9 49 (XW.bs 18 1023) HT_.out ?_
        refine Xpn 10 50 (XW.bs 18 2047) HT_.out ?_
        refine Xpn 11 51 (XW.bs 18 4095) HT_.out ?_
        refine Xpn 12 52 (XW.bs 18 8191) HT_.out ?_
        refine Xpn 13 53 (XW.bs 18 16383) HT_.out ?_
        refine Xpn 14 54 (XW.bs 18 32767) HT_.out ?_
        refine Xpn 15 55 (XW.bs 18 65535) HT_.out ?_
        refine Xpn 16 56 (XW.bs 18 131071) HT_.out ?_
        refine Xpu 17 57 (XW.bs 18 262143) HT_.out ?_
        refine done_ (done_of HT_.out (by kernel_rfl)) ?_
        obtain ⟨ad206, e206, p206, q206, hx206_0, hx206_1, hx206_2⟩ := at_B38 HR0 x7_1 Xa Xa HB
        obtain rfl : ad200 = ad206 := (by injection e206)
        try go_wp2_with (first | ((with_reducible refine gate_builtin (b := .append) (xs := #[.tmp 58, .tmp 63]) rfl ?_); at_builtin; refine Kd.R_append k38 (w0 := w) w.heap.size rfl (.tmp 58) (.tmp 63) 30 38 (.agg #[(.int .i64 0), (.int .i64 0), (.int .i64 0)]) 24 rfl Try.underlying30 info38 rfl (by decide) (by omega) u5 x5_1 (⟨(rd_T38 l0 x7_1).f0, (rd_T38 l0 x7_1).f1, (rd_T38 l0 x7_1).f2⟩ : S38) [.int .i64 ((rd_T38 l0 x7_1).f0), .int .i64 ((rd_T38 l0 x7_1).f1), .int .i64 ((rd_T38 l0 x7_1).f2)] (fun k_ => k_ ≠ gb176) (fun _ => False) rfl rfl ?aP (fun _ hk => hk.elim) ?aF ?aO ?aB ?aS ?aL ?_; (case aP => exact k38_mkM _ _ _ (⟨(rd_T38 l0 x7_1).f0, (rd_T38 l0 x7_1).f1, (rd_T38 l0 x7_1).f2⟩ : S38)); (case aB => exact Xi); (case aF => exact (fun k_ hk => Kd.freshB (g := gb176) (o := .cells #[.int .i64 a1_0, .int .i64 a1_1, .int .i64 t178] 38 (0, 0)) (Xq' BK176) k_ hk)); (case aO => exact (Xq HO_5)); (case aS => exact (below_size Xi)); (case aL => have := LMc44.out; omega); intro v208 w46 ho hb hg hat; rw [← Ny207.out] at ho; replace BK176 := Aside0.mk (blk_grown (g := gb176) (o := .cells #[.int .i64 a1_0, .int .i64 a1_1, .int .i64 t178] 38 (0, 0)) (Xq' BK176) hg (Kd.R_away HO_5.out (fun _ hk => hk))); replace HB := Aside0.mk (hb); have HO209 := Aside0.mk (ho); clear HO_5; clear ho hb hg hat))
        go_roundg kj11
        case measure => have := HK1.out; have := HJ11.out; omega
        case rel => exact ⟨(y207), (x6_1), (wrap64 (x7_1 + 1)), Xr, Xr, H', ⟨by have := HK1.out; have := HJ11.out; omega⟩, (Xp' HO209), (Xp BK176), ⟨Xi⟩⟩
   ·by_cases c47 : x6_1 = true
    ·subst c47
     (first | rw [if_pos rfl] at H | skip)
     obtain rfl := Option.some.inj H
     go_wp2
     go_ret
     exact ⟨_, Xe, by (with_reducible repeat (first | apply Kd.R_alloc | apply Kd.R_drewN | apply Kd.R_drew)); exact Kd.R_mono HO_5.out (fun _ hk => trivial), Xi⟩
    ·replace c47 := Bool.eq_false_iff.mpr c47
     subst c47
     (first | rw [if_neg (show ¬ (false = true) by decide)] at H | skip)
     obtain ⟨c48, H⟩ | ⟨c48, H⟩ := Xiu H
     ·have LMc48 := Aside0.mk c48
      clear c48
      obtain ⟨y182, hy182⟩ : ∃ y_ : List (S38), y_ = (x5_1 ++ [(⟨a1_0, a1_1, t178⟩ : S38)]) := ⟨_, rfl⟩
      replace H : (some y182) = some r := by first | (rw [hy182]; with_reducible exact H) | (have H2_ := (Option.bind_some _ _).symm.trans H; rw [hy182]; with_reducible exact H2_) | (have H2_ := (Option.bind_some _ _).symm.trans H; with_reducible exact H2_) | with_reducible exact H | (rw [hy182]; exact H) | exact H
      have Ny182 := Aside0.mk hy182
      clear hy182
      obtain rfl := Option.some.inj H
      obtain ⟨hcz49_0, hcz49_1, hcz49_2⟩ := Xc3 BK176
      obtain ⟨hfz49_0, hfz49_1, hfz49_2⟩ := Xf3 BK176
      go_wp2_with (first | ((with_reducible refine gate_builtin (b := .append) (xs := #[.tmp 67, .tmp 69]) rfl ?_); at_builtin; refine Kd.R_append k38 (w0 := w) w.heap.size rfl (.tmp 67) (.tmp 69) 30 38 (.agg #[(.int .i64 0), (.int .i64 0), (.int .i64 0)]) 24 rfl Try.underlying30 info38 rfl (by decide) (by omega) u5 x5_1 (⟨a1_0, a1_1, t178⟩ : S38) [.int .i64 a1_0, .int .i64 a1_1, .int .i64 t178] (fun k_ => k_ ≠ gb176) (fun _ => False) rfl rfl ?aP (fun _ hk => hk.elim) ?aF ?aO ?aB ?aS ?aL ?_; (case aP => exact k38_mkM _ _ _ (⟨a1_0, a1_1, t178⟩ : S38)); (case aB => exact Xi); (case aF => exact (fun k_ hk => Kd.freshB (g := gb176) (o := .cells #[.int .i64 a1_0, .int .i64 a1_1, .int .i64 t178] 38 (0, 0)) (Xq' BK176) k_ hk)); (case aO => exact (Xq HO_5)); (case aS => exact (below_size Xi)); (case aL => have := LMc48.out; omega); intro v183 w50 ho hb hg hat; rw [← Ny182.out] at ho; replace BK176 := Aside0.mk (blk_grown (g := gb176) (o := .cells #[.int .i64 a1_0, .int .i64 a1_1, .int .i64 t178] 38 (0, 0)) (Xq' BK176) hg (Kd.R_away HO_5.out (fun _ hk => hk))); replace HB := Aside0.mk (hb); have HO184 := Aside0.mk (ho); clear HO_5; clear ho hb hg hat))
      go_ret
      exact ⟨_, Xe, by (with_reducible repeat (first | apply Kd.R_alloc | apply Kd.R_drewN | apply Kd.R_drew)); exact Kd.R_mono HO184.out (fun _ hk => trivial), Xi⟩
     ·exact absurd H (by simp)

end Go.Proofs.Ytocelbmpnjnnbaa.XA
