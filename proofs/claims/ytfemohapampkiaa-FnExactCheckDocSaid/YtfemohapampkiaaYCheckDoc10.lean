/- Contracts of the program's functions: each Go function that is named below comes to what its Lean function says. Written by xprint.py (a program of this session's, over the kit's print). Conditions: each contract's own premises. -/
import Derived.Test.YtfemohapampkiaaYCheckDoc0
import Derived.Test.YtfemohapampkiaaYCheckDoc5
namespace Go.Proofs.Ytfemohapampkiaa.XA
open Go.RowKit Go.Proofs.YtfemohapampkiaaW.PrintWords Go.Proofs.YtfemohapampkiaaW.PrintLast Go.Proofs.YtfemohapampkiaaW.PrintMore XW
attribute [local go_sem] max2_int min2_int max_two min_two max_three min_three max_four min_four   -- for this text's walks alone
set_option linter.unusedVariables false
set_option linter.unusedSimpArgs false

/-! ### spec_l02Order: function 128 -/
mutual
def spec_l02Order.l0 : Nat → List Int → List Int → Int → Int → Int → List (S88) → Option (List Int)
 | 0, _, _, _, _, _, _ => none
 | k + 1, x5, x6, x7, x262000, x262001, x262002 => if x7 < (x6.length : Int) then (if 0 ≤ x7 then ((spec_l02Order.f k x262000 x262001 x262002 (rd x6 x7)).bind fun t268 => (if x5.length + t268.length < 17592186044416 then (spec_l02Order.l0 k (x5 ++ t268) x6 (wrap64 (x7 + 1)) x262000 x262001 x262002) else (none))) else (none)) else (some x5)
def spec_l02Order.f : Nat → Int → Int → List (S88) → Int → Option (List Int)
 | 0, _, _, _, _ => none
 | k + 1, a0_0, a0_1, l0_2, a1 => (spec_l02At.f k a0_0 a0_1 l0_2 a1).bind fun t265 => (if 0 ≤ t265 then (if t265 < (l0_2.length : Int) then (spec_l02Order.l0 k (([a1] : List Int)) ((rd_T88 l0_2 t265).f4) 0 a0_0 a0_1 l0_2) else (none)) else (none))
end
def spec_l02Order.T2 : Bool × List (List Nat × List Nat) := (true, [([], []), ([0], [0]), ([], []), ([], []), ([2, 3], [2, 3]), ([1, 4], [1, 4]), ([5], [5]), ([6], [6]), ([7, 4, 0, 1, 2, 3, 4, 5, 6, 7], [7])])
def spec_l02Order.B2 : List Nat := [0, 1, 0, 0, 12, 31, 63, 127, 255]
theorem spec_l02Order.tab2 : rtab .any (opsOf Try.f128 2) = spec_l02Order.T2 := by kernel_rfl
theorem spec_l02Order.bits2 : waitsOk spec_l02Order.T2.2 spec_l02Order.B2 = true := by kernel_rfl
def spec_l02Order.T6 : Bool × List (List Nat × List Nat) := (true, [([], []), ([], []), ([], []), ([], []), ([2, 3], [2, 3]), ([4], [4]), ([1, 5], [1, 5]), ([0, 6, 6], [0, 6]), ([7, 7, 0, 1, 2, 3, 4, 5, 6, 7], [0, 7])])
def spec_l02Order.B6 : List Nat := [0, 0, 0, 0, 12, 28, 62, 127, 255]
theorem spec_l02Order.tab6 : rtab .any (opsOf Try.f128 6) = spec_l02Order.T6 := by kernel_rfl
theorem spec_l02Order.bits6 : waitsOk spec_l02Order.T6.2 spec_l02Order.B6 = true := by kernel_rfl
set_option maxHeartbeats 8000000 in
set_option maxRecDepth 100000 in
theorem spec_l02Order.calls (k : Nat) : ∀ (a0_0 : Int) (a0_1 : Int) (A0_2 : Option Addr) (c0_2 : Nat) (l0_2 : List (S88)) (a1 : Int) (r : List Int) (w : World) (hr0_2 : Kd.C k88 w A0_2 l0_2.length l0_2) (hc0_2 : l0_2.length ≤ c0_2) (h : spec_l02Order.f k a0_0 a0_1 l0_2 a1 = some r),
  Calls Try.prog 128 #[.agg #[.int .i64 a0_0, .int .i64 a0_1, .slice A0_2 l0_2.length c0_2], .int .i64 a1] w fun e w' => ∃ v0_ : Value, e = .returned (v0_) ∧ Kd.R (Kd.int .i64) 3 w' w.heap.size (fun _ => True) v0_ r ∧ Below w.heap.size w w' := by
 induction k using Nat.strongRecOn with
 | _ k ih =>
 intro a0_0 a0_1 A0_2 c0_2 l0_2 a1 r w hr0_2 hc0_2 h
 cases k with
 | zero => exact absurd h (by simp [spec_l02Order.f])
 | succ k =>
 simp only [spec_l02Order.f] at h
 have hu29 := Try.underlying29
 have HR0_2 := Aside0.mk hr0_2
 have HC0_2 := Aside0.mk hc0_2
 clear hr0_2 hc0_2
 have HB := Aside0.mk (Below.refl w.heap.size w)
 have H : ((spec_l02At.f k a0_0 a0_1 l0_2 a1).bind fun t265 => (if 0 ≤ t265 then (if t265 < (l0_2.length : Int) then (spec_l02Order.l0 k (([a1] : List Int)) ((rd_T88 l0_2 t265).f4) 0 a0_0 a0_1 l0_2) else (none)) else (none))) = some r := h
 clear h
 obtain ⟨y262, hy262⟩ : ∃ y_ : List Int, y_ = (([a1] : List Int)) := ⟨_, rfl⟩
 replace H : ((spec_l02At.f k a0_0 a0_1 l0_2 a1).bind fun t265 => (if 0 ≤ t265 then (if t265 < (l0_2.length : Int) then (spec_l02Order.l0 k y262 ((rd_T88 l0_2 t265).f4) 0 a0_0 a0_1 l0_2) else (none)) else (none))) = some r := by first | (rw [hy262]; with_reducible exact H) | (have H2_ := (Option.bind_some _ _).symm.trans H; rw [hy262]; with_reducible exact H2_) | (have H2_ := (Option.bind_some _ _).symm.trans H; with_reducible exact H2_) | with_reducible exact H | (rw [hy262]; exact H) | exact H
 have Ny262 := Aside0.mk hy262
 clear hy262
 obtain ⟨t265, A3, H⟩ := Xbi H
 (try dsimp only at H)
 obtain ⟨c4, H⟩ | ⟨c4, H⟩ := Xiu H
 ·have c4b0 : decide (0 ≤ t265) = true := decide_eq_true c4
  clear c4
  obtain ⟨c5b0, H⟩ := Xid H
  have H' := Aside0.mk H
  clear H
  go_enter Try.func128, Try.ntmps128
  try go_wp2_with (first | ((with_reducible refine gate_dst (N := 2) rfl ?_); refine Xbox 2 #[.int .i64 a0_0, .int .i64 a0_1, .slice A0_2 l0_2.length c0_2] 29 ?_; intro gb261 hg w6 hbox hb; have BK261 := Aside0.mk (hbox); have GE261 := Xge hg Xi; replace HB := Aside0.mk (below_step Xi hb); clear hb hbox hg) | ((with_reducible refine gate_dst (N := 9) rfl ?_); refine Kd.R_lit (Kd.int .i64) _ 3 ?hg (N := 9) ?hd (xs := ([a1] : List Int)) (inner := [.int .i64 a1]) (ok := fun _ => True) (okp := fun _ => True) ?hr ?hp (fun _ hk => hk) trivial (Below.refl _ _) (Nat.le_refl _) (by simp) ?_; (case hd => rfl); (case hg => rfl); (case hr => first | (go_simp; done) | (go_simp; rfl)); (case hp => exact (Reps.one (show Kd.M (Kd.int .i64) _ _ _ a1 [.int .i64 a1] from rfl) (Reps.none _ _))); intro v263 w7 ho8 hb hg_ hnew_; clear hg_ hnew_; (first | rw [← Ny262.out] at ho8 | (simp only [Int.reduceToNat] at ho8; rw [← Ny262.out] at ho8)); have HO264 := Aside0.mk (Kd.R_lower ho8 (below_size Xi)); replace BK261 := Xbb BK261 hb; replace HB := Aside0.mk (below_step Xi hb); clear hb ho8))
  replace HO264 := Aside0.mk (Kd.R_drew HO264.out)
  replace BK261 := Aside0.mk (blk_drew BK261.out)
  replace HB := Aside0.mk (below_drew1 HB.out)
  have p266 : 0 ≤ (t265 : Int) := of_decide_eq_true Xa
  have q266 : t265 < (l0_2.length : Int) := of_decide_eq_true Xa
  obtain ⟨ad266, A266_4, c266_4, e266, hx266_0, hx266_1, hx266_2, hx266_3, hx266_4, hl266_4, hi266_4⟩ := at_T88 HR0_2.out t265 p266 q266
  have hw266_4 := hx266_4
  have hw266_3 := hx266_3
  have hw266_2 := hx266_2
  have hw266_1 := hx266_1
  have hw266_0 := hx266_0
  cases e266
  replace hx266_0 := Xm HB hx266_0
  replace hx266_1 := Xm HB hx266_1
  replace hx266_2 := Xm HB hx266_2
  replace hx266_3 := Xm HB hx266_3
  replace hx266_4 := Xm HB hx266_4
  have HR266_4 := Aside0.mk hi266_4
  have HC266_4 := Aside0.mk hl266_4
  clear hi266_4 hl266_4
  replace p266 := eq_true p266
  replace q266 := eq_true q266
  refine start_ (n := 9) (S := fun w' => w'.cell? ⟨gb261, 0, none⟩ = some (.int .i64 a0_0) ∧ w'.cell? ⟨gb261, 1, none⟩ = some (.int .i64 a0_1) ∧ w'.cell? ⟨gb261, 2, none⟩ = some (.slice (some ad266) l0_2.length c0_2) ∧ w'.cell? (ad266.add ((t265).toNat * 5)) = some (.int .i64 ((rd_T88 l0_2 t265).f0)) ∧ w'.cell? ⟨(ad266.add ((t265).toNat * 5)).block, (ad266.add ((t265).toNat * 5)).off + 1, none⟩ = some (.int .i64 ((rd_T88 l0_2 t265).f1)) ∧ w'.cell? ⟨(ad266.add ((t265).toNat * 5)).block, (ad266.add ((t265).toNat * 5)).off + 2, none⟩ = some (.int .i64 ((rd_T88 l0_2 t265).f2)) ∧ w'.cell? ⟨(ad266.add ((t265).toNat * 5)).block, (ad266.add ((t265).toNat * 5)).off + 3, none⟩ = some (.string ((rd_T88 l0_2 t265).f3)) ∧ w'.cell? ⟨(ad266.add ((t265).toNat * 5)).block, (ad266.add ((t265).toNat * 5)).off + 4, none⟩ = some (.slice A266_4 ((rd_T88 l0_2 t265).f4).length c266_4)) (ds := []) #[false, false, false, false, false, false, false, false, false] (by kernel_rfl) rfl rfl ⟨(blk_cell BK261.out 0).trans rfl, (blk_cell BK261.out 1).trans rfl, (blk_cell BK261.out 2).trans rfl, Xn hw266_0, Xn hw266_1, Xn hw266_2, Xn hw266_3, Xn hw266_4⟩ (fun hHeld => ?_); refine with_tabW spec_l02Order.tab2 spec_l02Order.bits2 (fun HT_ HW_ => ?_)
  generalize w7.drew = w9 at HO264 BK261 HB HR266_4 hx266_0 hx266_1 hx266_2 hx266_3 hx266_4 hHeld ⊢
  refine Xpu 0 10 (XW.bs 9 1) HT_.out ?_
  refine Xpu 3 13 (XW.bs 9 9) HT_.out ?_
  refine Xta 1 11 (XW.bs 9 11) HT_.out HW_.out hHeld ?_
  refine Xta 2 12 (XW.bs 9 15) HT_.out HW_.out hHeld ?_
  refine one_ (i := 4) (N := some 14) (XW.bs 9 31) rfl rfl (one_of HT_.out (by kernel_rfl)) (by decide) (fun K hK => ?_)
  refine goes_ Try.func69 (by kernel_rfl) rfl #[.agg #[.int .i64 a0_0, .int .i64 a0_1, .slice (some ad266) l0_2.length c0_2], .int .i64 a1] (by rfl) rfl rfl (by (try simp only [List.map_toArray, List.map_cons, List.map_nil]); first | done | rfl | (simp only [List.length_drop, List.length_take]; rfl)) ?_
  with_reducible refine (spec_l02At.calls k a0_0 a0_1 _ _ l0_2 a1 t265 _ ?side1 ?side2 A3.out).mono ?_
  (case side1 => exact Xc HR0_2)
  (case side2 => exact HC0_2.out)
  rintro e w10 ⟨rfl, hb⟩
  refine ⟨_, rfl, ?_⟩
  replace HO264 := Aside0.mk (Kd.R_below (Xq HO264) hb)
  replace BK261 := Xbb BK261 hb
  replace HB := Aside0.mk (below_step Xi hb)
  (try clear hb)
  (try clear hb2)
  (try clear hk)
  (try clear hi)
  refine hK.out _ _ ⟨(blk_cell BK261.out 0).trans rfl, (blk_cell BK261.out 1).trans rfl, (blk_cell BK261.out 2).trans rfl, Xn hw266_0, Xn hw266_1, Xn hw266_2, Xn hw266_3, Xn hw266_4⟩ (fun hHeld => ?_)
  clear hK K
  refine Xno ?_
  refine Xpu 5 15 (XW.bs 9 63) HT_.out ?_
  refine Xpu 6 16 (XW.bs 9 127) HT_.out ?_
  refine Xta 7 17 (XW.bs 9 255) HT_.out HW_.out hHeld ?_
  refine Xpu 8 6 (XW.bs 9 511) HT_.out ?_
  refine done_ (done_of HT_.out (by kernel_rfl)) ?_
  try go_wp2_with (fail)
  go_loopg [5, 7] k (fun kq v5 v7 w' => ∃ (x5_1 : List Int) (x7_1 : Int), v7 = .int .i64 x7_1 ∧ Aside0 (spec_l02Order.l0 kq x5_1 ((rd_T88 l0_2 t265).f4) x7_1 a0_0 a0_1 l0_2 = some r) ∧ Aside0 (kq ≤ k) ∧ Aside0 (Kd.R (Kd.int .i64) 3 w' w.heap.size (fun _ => True) v5 x5_1) ∧ Aside0 (w'.heap[gb261]? = some (.cells #[.int .i64 a0_0, .int .i64 a0_1, (.slice (some ad266) l0_2.length c0_2)] 29 (0, 0))) ∧ Aside0 (Below w.heap.size w w'))
  case atStart => exact ⟨(y262), (0), Xr, H', Xkr, (Xp' HO264), (Xp BK261), ⟨Xi⟩⟩
  case round =>
   clear H'
   (try clear c4); (try clear c4b0); (try clear c5); (try clear c5b0); (try clear hx266_0); (try clear hx266_1); (try clear hx266_2); (try clear hx266_3); (try clear hx266_4); (try clear p266); (try clear q266)
   obtain ⟨x5_1, x7_1, rfl, HA, HK1, HO_5, BK261, HB⟩ := hrel
   cases gk with
   | zero => cases HA.out
   | succ k1 =>
    have H := HA.out
    clear HA
    simp only [spec_l02Order.l0] at H
    obtain ⟨c11b0, H⟩ | ⟨c11b0, H⟩ := Xit H
    ·obtain ⟨c12b0, H⟩ := Xid H
     obtain ⟨t268, A13, H⟩ := Xbi H
     (try dsimp only at H)
     obtain ⟨c14, H⟩ := Xif H
     have LMc14 := Aside0.mk c14
     clear c14
     obtain ⟨y271, hy271⟩ : ∃ y_ : List Int, y_ = (x5_1 ++ t268) := ⟨_, rfl⟩
     replace H : (spec_l02Order.l0 k1 y271 ((rd_T88 l0_2 t265).f4) (wrap64 (x7_1 + 1)) a0_0 a0_1 l0_2) = some r := by first | (rw [hy271]; with_reducible exact H) | (have H2_ := (Option.bind_some _ _).symm.trans H; rw [hy271]; with_reducible exact H2_) | (have H2_ := (Option.bind_some _ _).symm.trans H; with_reducible exact H2_) | with_reducible exact H | (rw [hy271]; exact H) | exact H
     have Ny271 := Aside0.mk hy271
     clear hy271
     have H' := Aside0.mk H
     clear H
     try go_wp2_with (fail)
     replace HO_5 := Aside0.mk (Kd.R_drew HO_5.out)
     replace BK261 := Aside0.mk (blk_drew BK261.out)
     replace HB := Aside0.mk (below_drew1 HB.out)
     have p267 : 0 ≤ (x7_1 : Int) := of_decide_eq_true Xa
     have q267 : x7_1 < (((rd_T88 l0_2 t265).f4).length : Int) := of_decide_eq_true Xa
     obtain ⟨ad267, e267, hx267_0⟩ := Kd.at_int HR266_4.out x7_1 p267 q267
     have hw267_0 := hx267_0
     cases e267
     replace hx267_0 := Xm HB hx267_0
     replace p267 := eq_true p267
     replace q267 := eq_true q267
     refine start_ (n := 9) (S := fun w' => w'.cell? ⟨gb261, 0, none⟩ = some (.int .i64 a0_0) ∧ w'.cell? ⟨gb261, 1, none⟩ = some (.int .i64 a0_1) ∧ w'.cell? ⟨gb261, 2, none⟩ = some (.slice (some ad266) l0_2.length c0_2) ∧ w'.cell? (ad267.add (x7_1).toNat) = some (.int .i64 (rd ((rd_T88 l0_2 t265).f4) x7_1))) (ds := []) #[false, false, false, false, false, false, false, false, false] (by kernel_rfl) rfl rfl ⟨(blk_cell BK261.out 0).trans rfl, (blk_cell BK261.out 1).trans rfl, (blk_cell BK261.out 2).trans rfl, Xn hw267_0⟩ (fun hHeld => ?_); refine with_tabW spec_l02Order.tab6 spec_l02Order.bits6 (fun HT_ HW_ => ?_)
     generalize wr.drew = w15 at HO_5 BK261 HB hx267_0 hHeld ⊢
     refine Xpu 0 24 (XW.bs 9 1) HT_.out ?_
     refine Xpu 2 26 (XW.bs 9 5) HT_.out ?_
     refine Xpu 3 27 (XW.bs 9 13) HT_.out ?_
     refine Xpu 4 28 (XW.bs 9 29) HT_.out ?_
     refine Xta 1 25 (XW.bs 9 31) HT_.out HW_.out hHeld ?_
     refine Xta 5 29 (XW.bs 9 63) HT_.out HW_.out hHeld ?_
     refine one_ (i := 6) (N := some 30) (XW.bs 9 127) rfl rfl (one_of HT_.out (by kernel_rfl)) (by decide) (fun K hK => ?_)
     refine goes_ Try.func128 (by kernel_rfl) rfl #[.agg #[.int .i64 a0_0, .int .i64 a0_1, .slice (some ad266) l0_2.length c0_2], .int .i64 (rd ((rd_T88 l0_2 t265).f4) x7_1)] (by rfl) rfl rfl (by (try simp only [List.map_toArray, List.map_cons, List.map_nil]); first | done | rfl | (simp only [List.length_drop, List.length_take]; rfl)) ?_
     with_reducible refine (ih k1 (by have := HK1.out; omega) a0_0 a0_1 _ _ l0_2 (rd ((rd_T88 l0_2 t265).f4) x7_1) t268 _ ?side1 ?side2 A13.out).mono ?_
     (case side1 => exact Xc HR0_2)
     (case side2 => exact HC0_2.out)
     rintro e w16 ⟨v269, rfl, ho0, hb⟩
     refine ⟨_, rfl, ?_⟩
     have HO270 := Aside0.mk (Kd.R_lower (Kd.R_new' ho0 (Kd.R_lt (Xq HO_5))) (below_size Xi))
     replace HO_5 := Aside0.mk (Kd.R_elder' (Xq HO_5) (Kd.R_base ho0) hb)
     replace BK261 := Xbb BK261 hb
     replace HB := Aside0.mk (below_step Xi hb)
     (try clear hb)
     (try clear hb2)
     (try clear hk)
     (try clear hi)
     (try clear ho0)
     obtain ⟨Ao18, co18, eo18⟩ := Kd.R_slice HO270.out
     (first | subst eo18 | (injection eo18 with f1_ f2_ f3_; have f4_ := f1_.symm; have f5_ := f3_.symm; clear f1_ f2_ f3_; subst f4_; subst f5_))
     refine hK.out _ _ ⟨(blk_cell BK261.out 0).trans rfl, (blk_cell BK261.out 1).trans rfl, (blk_cell BK261.out 2).trans rfl, Xn hw267_0⟩ (fun hHeld => ?_)
     clear hK K
     refine Xno ?_
     refine one_ (i := 7) (N := some 31) (XW.bs 9 255) rfl rfl (one_of HT_.out (by kernel_rfl)) (by decide) (fun K hK => ?_)
     refine Kd.R_append_rows_step (Kd.int .i64) (w0 := w) w.heap.size (by rfl) (.tmp 24) (.tmp 30) 34 3 (.int .i64 0) 8 rfl Try.underlying34 info3 rfl (by decide) (by omega) u5 x5_1 t268 _ _ _ (fun k_ => some k_ ≠ (.slice Ao18 t268.length co18 : Value).ownBlock) (fun _ => False) rfl rfl ?aO ?aR (fun _ _ h => h) (fun _ h => h.elim) ?aF ?aB ?aS ?aL ?_
     (case aR => repeat (first | exact (Kd.R_reads' HO270.out).2.2 | (with_reducible first | refine Kd.C_alloc ?_ _ | refine Kd.C_drewN ?_ _ | refine Kd.C_drew ?_)))
     (case aB => exact Xi)
     (case aF => exact (fun k_ hk => Kd.fresh' (Kd.R_lt (Xq HO270)) k_ hk))
     (case aO => exact (by (with_reducible repeat (first | apply Kd.R_alloc | apply Kd.R_drewN | apply Kd.R_drew)); exact Kd.R_mono HO_5.out (fun _ hk => hk.2)))
     (case aS => exact (below_size Xi))
     (case aL => have := LMc14.out; omega)
     intro v272 w17 ho hb hg hat
     rw [← Ny271.out] at ho
     replace BK261 := Aside0.mk (blk_grown (g := gb261) (o := .cells #[.int .i64 a0_0, .int .i64 a0_1, .slice (some ad266) l0_2.length c0_2] 29 (0, 0)) (Xq' BK261) hg (Kd.R_ne HO_5.out BK261.out (by decide)))
     replace HO270 := Aside0.mk (Kd.R_after (ok := (fun _ => True)) (Xq HO270) hg hat)
     replace HB := Aside0.mk (hb)
     have HO273 := Aside0.mk (ho)
     clear HO_5
     clear ho hb hg hat
     refine hK.out _ _ ⟨(blk_cell BK261.out 0).trans rfl, (blk_cell BK261.out 1).trans rfl, (blk_cell BK261.out 2).trans rfl, Xn hw267_0⟩ (fun hHeld => ?_)
     clear hK K
     refine Xno ?_
     refine Xpu 8 5 (XW.bs 9 511) HT_.out ?_
     refine done_ (done_of HT_.out (by kernel_rfl)) ?_
     try go_wp2_with (fail)
     go_roundg k1
     case measure => have := HK1.out; omega
     case rel => exact ⟨(y271), (wrap64 (x7_1 + 1)), Xr, H', Xk1, ⟨by (with_reducible repeat (first | apply Kd.R_alloc | apply Kd.R_drewN | apply Kd.R_drew)); exact Kd.R_mono HO273.out (fun _ hk => trivial)⟩, (Xp BK261), ⟨Xi⟩⟩
    ·obtain rfl := Option.some.inj H
     go_wp2
     go_ret
     exact ⟨_, Xe, Xq HO_5, Xi⟩
 ·exact absurd H (by simp)

/-! ### spec_l05Kids: function 68 -/
def spec_l05Kids.l0 : Nat → List Int → Int → Int → Int → List (S88) → Int → Int → Int → ByteArray → List Int → Option (List Int)
 | 0, _, _, _, _, _, _, _, _, _, _ => none
 | k + 1, x5, x6, x275000, x275001, x275002, x276000, x276001, x276002, x276003, x276004 => if x6 < (x276004.length : Int) then (if 0 ≤ x6 then ((spec_l02At.f k x275000 x275001 x275002 (rd x276004 x6)).bind fun t280 => (if 0 ≤ t280 then (if t280 < (x275002.length : Int) then (if x5.length < 17592186044416 then (spec_l05Kids.l0 k (x5 ++ [(rd_T88 x275002 t280).f1]) (wrap64 (x6 + 1)) x275000 x275001 x275002 x276000 x276001 x276002 x276003 x276004) else (none)) else (none)) else (none))) else (none)) else (some x5)
def spec_l05Kids.f (k : Nat) (a0_0 : Int) (a0_1 : Int) (l0_2 : List (S88)) (a1_0 : Int) (a1_1 : Int) (a1_2 : Int) (a1_3 : ByteArray) (l1_4 : List Int) : Option (List Int) := spec_l05Kids.l0 k (([] : List Int)) 0 a0_0 a0_1 l0_2 a1_0 a1_1 a1_2 a1_3 l1_4
def spec_l05Kids.T5 : Bool × List (List Nat × List Nat) := (true, [([], []), ([], []), ([1], [1]), ([], []), ([], []), ([4], [4]), ([], []), ([5, 6], [5, 6]), ([7], [7]), ([3, 8], [3, 8]), ([2, 9], [2, 9]), ([10], [10]), ([11], [11]), ([12], [12]), ([0, 13, 9], [0, 13]), ([14, 14, 0, 1, 2, 3, 4, 5, 6, 7, 8, 9, 10, 11, 12, 13, 14], [0, 14])])
def spec_l05Kids.B5 : List Nat := [0, 0, 2, 0, 0, 16, 0, 112, 240, 504, 1022, 2046, 4094, 8190, 16383, 32767]
theorem spec_l05Kids.tab5 : rtab .any (opsOf Try.f68 5) = spec_l05Kids.T5 := by kernel_rfl
theorem spec_l05Kids.bits5 : waitsOk spec_l05Kids.T5.2 spec_l05Kids.B5 = true := by kernel_rfl
set_option maxHeartbeats 8000000 in
set_option maxRecDepth 100000 in
theorem spec_l05Kids.calls (k : Nat) (a0_0 : Int) (a0_1 : Int) (A0_2 : Option Addr) (c0_2 : Nat) (l0_2 : List (S88)) (a1_0 : Int) (a1_1 : Int) (a1_2 : Int) (a1_3 : ByteArray) (A1_4 : Option Addr) (c1_4 : Nat) (l1_4 : List Int) (r : List Int) (w : World) (hr0_2 : Kd.C k88 w A0_2 l0_2.length l0_2) (hc0_2 : l0_2.length ≤ c0_2) (hr1_4 : Kd.C (Kd.int .i64) w A1_4 l1_4.length l1_4) (hc1_4 : l1_4.length ≤ c1_4) (h : spec_l05Kids.f k a0_0 a0_1 l0_2 a1_0 a1_1 a1_2 a1_3 l1_4 = some r) :
  Calls Try.prog 68 #[.agg #[.int .i64 a0_0, .int .i64 a0_1, .slice A0_2 l0_2.length c0_2], .agg #[.int .i64 a1_0, .int .i64 a1_1, .int .i64 a1_2, .string a1_3, .slice A1_4 l1_4.length c1_4]] w fun e w' => ∃ v0_ : Value, e = .returned (v0_) ∧ Kd.R (Kd.int .i64) 3 w' w.heap.size (fun _ => True) v0_ r ∧ Below w.heap.size w w' := by
 have hu29 := Try.underlying29
 have hu88 := Try.underlying88
 have HR0_2 := Aside0.mk hr0_2
 have HC0_2 := Aside0.mk hc0_2
 clear hr0_2 hc0_2
 have HR1_4 := Aside0.mk hr1_4
 have HC1_4 := Aside0.mk hc1_4
 clear hr1_4 hc1_4
 have HB := Aside0.mk (Below.refl w.heap.size w)
 have H : (spec_l05Kids.l0 k (([] : List Int)) 0 a0_0 a0_1 l0_2 a1_0 a1_1 a1_2 a1_3 l1_4) = some r := h
 clear h
 obtain ⟨y276, hy276⟩ : ∃ y_ : List Int, y_ = (([] : List Int)) := ⟨_, rfl⟩
 replace H : (spec_l05Kids.l0 k y276 0 a0_0 a0_1 l0_2 a1_0 a1_1 a1_2 a1_3 l1_4) = some r := by first | (rw [hy276]; with_reducible exact H) | (have H2_ := (Option.bind_some _ _).symm.trans H; rw [hy276]; with_reducible exact H2_) | (have H2_ := (Option.bind_some _ _).symm.trans H; with_reducible exact H2_) | with_reducible exact H | (rw [hy276]; exact H) | exact H
 have Ny276 := Aside0.mk hy276
 clear hy276
 have H' := Aside0.mk H
 clear H
 go_enter Try.func68, Try.ntmps68
 go_wp2_with (first | ((with_reducible refine gate_dst (N := 2) rfl ?_); refine Xbox 2 #[.int .i64 a0_0, .int .i64 a0_1, .slice A0_2 l0_2.length c0_2] 29 ?_; intro gb274 hg w3 hbox hb; have BK274 := Aside0.mk (hbox); have GE274 := Xge hg Xi; replace HB := Aside0.mk (below_step Xi hb); clear hb hbox hg) | ((with_reducible refine gate_dst (N := 3) rfl ?_); refine Xbox 3 #[.int .i64 a1_0, .int .i64 a1_1, .int .i64 a1_2, .string a1_3, .slice A1_4 l1_4.length c1_4] 88 ?_; intro gb275 hg w4 hbox hb; have BK275 := Aside0.mk (hbox); have GE275 := Xge hg Xi; replace HB := Aside0.mk (below_step Xi hb); have NB274_275 := Xnb hg BK274; have NB275_274 := Xns NB274_275; replace BK274 := Xbb BK274 hb; clear hb hbox hg) | ((with_reducible refine gate_dst (N := 7) rfl ?_); refine Kd.R_lit (Kd.int .i64) _ 3 ?hg (N := 7) ?hd (xs := ([] : List Int)) (inner := []) (ok := fun _ => True) (okp := fun _ => True) ?hr ?hp (fun _ hk => hk) trivial (Below.refl _ _) (Nat.le_refl _) (by simp) ?_; (case hd => rfl); (case hg => rfl); (case hr => first | (go_simp; done) | (go_simp; rfl)); (case hp => exact (Reps.none _ _)); intro v277 w5 ho6 hb hg_ hnew_; clear hg_ hnew_; (first | rw [← Ny276.out] at ho6 | (simp only [Int.reduceToNat] at ho6; rw [← Ny276.out] at ho6)); have HO278 := Aside0.mk (Kd.R_lower ho6 (below_size Xi)); replace BK274 := Xbb BK274 hb; replace BK275 := Xbb BK275 hb; replace HB := Aside0.mk (below_step Xi hb); clear hb ho6))
 go_loopg [5, 6] k (fun kq v5 v6 w' => ∃ (x5_1 : List Int) (x6_1 : Int), v6 = .int .i64 x6_1 ∧ Aside0 (spec_l05Kids.l0 kq x5_1 x6_1 a0_0 a0_1 l0_2 a1_0 a1_1 a1_2 a1_3 l1_4 = some r) ∧ Aside0 (kq ≤ k) ∧ Aside0 (Kd.R (Kd.int .i64) 3 w' w.heap.size (fun _ => True) v5 x5_1) ∧ Aside0 (w'.heap[gb274]? = some (.cells #[.int .i64 a0_0, .int .i64 a0_1, (.slice A0_2 l0_2.length c0_2)] 29 (0, 0))) ∧ Aside0 (w'.heap[gb275]? = some (.cells #[.int .i64 a1_0, .int .i64 a1_1, .int .i64 a1_2, .string a1_3, (.slice A1_4 l1_4.length c1_4)] 88 (0, 0))) ∧ Aside0 (Below w.heap.size w w'))
 case atStart => exact ⟨(y276), (0), Xr, H', Xkr, (Xp' HO278), (Xp BK274), (Xp BK275), ⟨Xi⟩⟩
 case round =>
  clear H'
  obtain ⟨x5_1, x6_1, rfl, HA, HK1, HO_5, BK274, BK275, HB⟩ := hrel
  cases gk with
  | zero => cases HA.out
  | succ k1 =>
   have H := HA.out
   clear HA
   simp only [spec_l05Kids.l0] at H
   obtain ⟨c7b0, H⟩ | ⟨c7b0, H⟩ := Xit H
   ·obtain ⟨c8b0, H⟩ := Xid H
    obtain ⟨t280, A9, H⟩ := Xbi H
    (try dsimp only at H)
    obtain ⟨c10b0, H⟩ := Xid H
    obtain ⟨c11b0, H⟩ := Xid H
    obtain ⟨c12, H⟩ := Xif H
    have LMc12 := Aside0.mk c12
    clear c12
    obtain ⟨y282, hy282⟩ : ∃ y_ : List Int, y_ = (x5_1 ++ [(rd_T88 l0_2 t280).f1]) := ⟨_, rfl⟩
    replace H : (spec_l05Kids.l0 k1 y282 (wrap64 (x6_1 + 1)) a0_0 a0_1 l0_2 a1_0 a1_1 a1_2 a1_3 l1_4) = some r := by first | (rw [hy282]; with_reducible exact H) | (have H2_ := (Option.bind_some _ _).symm.trans H; rw [hy282]; with_reducible exact H2_) | (have H2_ := (Option.bind_some _ _).symm.trans H; with_reducible exact H2_) | with_reducible exact H | (rw [hy282]; exact H) | exact H
    have Ny282 := Aside0.mk hy282
    clear hy282
    have H' := Aside0.mk H
    clear H
    have hnb13 := NB275_274.out
    have hnc13 := NB274_275.out
    obtain ⟨hcz14_0, hcz14_1, hcz14_2, hcz14_3, hcz14_4⟩ := Xc5 BK275
    try go_wp2_with (fail)
    replace HO_5 := Aside0.mk (Kd.R_drew HO_5.out)
    replace BK274 := Aside0.mk (blk_drew BK274.out)
    replace BK275 := Aside0.mk (blk_drew BK275.out)
    replace HB := Aside0.mk (below_drew1 HB.out)
    have p279 : 0 ≤ (x6_1 : Int) := of_decide_eq_true Xa
    have q279 : x6_1 < (l1_4.length : Int) := of_decide_eq_true Xa
    obtain ⟨ad279, e279, hx279_0⟩ := Kd.at_int HR1_4.out x6_1 p279 q279
    have hw279_0 := hx279_0
    cases e279
    replace hx279_0 := Xm HB hx279_0
    replace p279 := eq_true p279
    replace q279 := eq_true q279
    have p281 : 0 ≤ (t280 : Int) := of_decide_eq_true Xa
    have q281 : t280 < (l0_2.length : Int) := of_decide_eq_true Xa
    obtain ⟨ad281, A281_4, c281_4, e281, hx281_0, hx281_1, hx281_2, hx281_3, hx281_4, hl281_4, hi281_4⟩ := at_T88 HR0_2.out t280 p281 q281
    have hw281_4 := hx281_4
    have hw281_3 := hx281_3
    have hw281_2 := hx281_2
    have hw281_1 := hx281_1
    have hw281_0 := hx281_0
    cases e281
    replace hx281_0 := Xm HB hx281_0
    replace hx281_1 := Xm HB hx281_1
    replace hx281_2 := Xm HB hx281_2
    replace hx281_3 := Xm HB hx281_3
    replace hx281_4 := Xm HB hx281_4
    have HR281_4 := Aside0.mk hi281_4
    have HC281_4 := Aside0.mk hl281_4
    clear hi281_4 hl281_4
    replace p281 := eq_true p281
    replace q281 := eq_true q281
    refine start_ (n := 16) (S := fun w' => w'.cell? ⟨gb274, 0, none⟩ = some (.int .i64 a0_0) ∧ w'.cell? ⟨gb274, 1, none⟩ = some (.int .i64 a0_1) ∧ w'.cell? ⟨gb274, 2, none⟩ = some (.slice (some ad281) l0_2.length c0_2) ∧ w'.cell? ⟨gb275, 0, none⟩ = some (.int .i64 a1_0) ∧ w'.cell? ⟨gb275, 1, none⟩ = some (.int .i64 a1_1) ∧ w'.cell? ⟨gb275, 2, none⟩ = some (.int .i64 a1_2) ∧ w'.cell? ⟨gb275, 3, none⟩ = some (.string a1_3) ∧ w'.cell? ⟨gb275, 4, none⟩ = some (.slice (some ad279) l1_4.length c1_4) ∧ w'.cell? (ad279.add (x6_1).toNat) = some (.int .i64 (rd l1_4 x6_1)) ∧ w'.cell? (ad281.add ((t280).toNat * 5)) = some (.int .i64 ((rd_T88 l0_2 t280).f0)) ∧ w'.cell? ⟨(ad281.add ((t280).toNat * 5)).block, (ad281.add ((t280).toNat * 5)).off + 1, none⟩ = some (.int .i64 ((rd_T88 l0_2 t280).f1)) ∧ w'.cell? ⟨(ad281.add ((t280).toNat * 5)).block, (ad281.add ((t280).toNat * 5)).off + 2, none⟩ = some (.int .i64 ((rd_T88 l0_2 t280).f2)) ∧ w'.cell? ⟨(ad281.add ((t280).toNat * 5)).block, (ad281.add ((t280).toNat * 5)).off + 3, none⟩ = some (.string ((rd_T88 l0_2 t280).f3)) ∧ w'.cell? ⟨(ad281.add ((t280).toNat * 5)).block, (ad281.add ((t280).toNat * 5)).off + 4, none⟩ = some (.slice A281_4 ((rd_T88 l0_2 t280).f4).length c281_4)) (ds := []) #[false, false, false, false, false, false, false, false, false, false, false, false, false, false, false, false] (by kernel_rfl) rfl rfl ⟨(blk_cell BK274.out 0).trans rfl, (blk_cell BK274.out 1).trans rfl, (blk_cell BK274.out 2).trans rfl, (blk_cell BK275.out 0).trans rfl, (blk_cell BK275.out 1).trans rfl, (blk_cell BK275.out 2).trans rfl, (blk_cell BK275.out 3).trans rfl, (blk_cell BK275.out 4).trans rfl, Xn hw279_0, Xn hw281_0, Xn hw281_1, Xn hw281_2, Xn hw281_3, Xn hw281_4⟩ (fun hHeld => ?_); refine with_tabW spec_l05Kids.tab5 spec_l05Kids.bits5 (fun HT_ HW_ => ?_)
    generalize wr.drew = w15 at HO_5 BK274 BK275 HB HR281_4 hx279_0 hx281_0 hx281_1 hx281_2 hx281_3 hx281_4 hHeld ⊢
    refine Xpu 0 15 (XW.bs 16 1) HT_.out ?_
    refine Xpu 1 16 (XW.bs 16 3) HT_.out ?_
    refine Xpu 4 19 (XW.bs 16 19) HT_.out ?_
    refine Xpu 6 21 (XW.bs 16 83) HT_.out ?_
    refine Xta 2 17 (XW.bs 16 87) HT_.out HW_.out hHeld ?_
    refine Xta 3 18 (XW.bs 16 95) HT_.out HW_.out hHeld ?_
    refine Xta 5 20 (XW.bs 16 127) HT_.out HW_.out hHeld ?_
    refine Xpu 7 22 (XW.bs 16 255) HT_.out ?_
    refine Xta 8 23 (XW.bs 16 511) HT_.out HW_.out hHeld ?_
    refine one_ (i := 9) (N := some 24) (XW.bs 16 1023) rfl rfl (one_of HT_.out (by kernel_rfl)) (by decide) (fun K hK => ?_)
    refine goes_ Try.func69 (by kernel_rfl) rfl #[.agg #[.int .i64 a0_0, .int .i64 a0_1, .slice (some ad281) l0_2.length c0_2], .int .i64 (rd l1_4 x6_1)] (by rfl) rfl rfl (by (try simp only [List.map_toArray, List.map_cons, List.map_nil]); first | done | rfl | (simp only [List.length_drop, List.length_take]; rfl)) ?_
    with_reducible refine (spec_l02At.calls k1 a0_0 a0_1 _ _ l0_2 (rd l1_4 x6_1) t280 _ ?side1 ?side2 A9.out).mono ?_
    (case side1 => exact Xc HR0_2)
    (case side2 => exact HC0_2.out)
    rintro e w16 ⟨rfl, hb⟩
    refine ⟨_, rfl, ?_⟩
    replace HO_5 := Aside0.mk (Kd.R_below (Xq HO_5) hb)
    replace BK274 := Xbb BK274 hb
    replace BK275 := Xbb BK275 hb
    replace HB := Aside0.mk (below_step Xi hb)
    (try clear hb)
    (try clear hb2)
    (try clear hk)
    (try clear hi)
    refine hK.out _ _ ⟨(blk_cell BK274.out 0).trans rfl, (blk_cell BK274.out 1).trans rfl, (blk_cell BK274.out 2).trans rfl, (blk_cell BK275.out 0).trans rfl, (blk_cell BK275.out 1).trans rfl, (blk_cell BK275.out 2).trans rfl, (blk_cell BK275.out 3).trans rfl, (blk_cell BK275.out 4).trans rfl, Xn hw279_0, Xn hw281_0, Xn hw281_1, Xn hw281_2, Xn hw281_3, Xn hw281_4⟩ (fun hHeld => ?_)
    clear hK K
    refine Xno ?_
    refine Xpu 10 25 (XW.bs 16 2047) HT_.out ?_
    refine Xpu 11 26 (XW.bs 16 4095) HT_.out ?_
    refine Xta 12 27 (XW.bs 16 8191) HT_.out HW_.out hHeld ?_
    refine one_ (i := 13) (N := some 28) (XW.bs 16 16383) rfl rfl (one_of HT_.out (by kernel_rfl)) (by decide) (fun K hK => ?_)
    refine value_ (w1 := ?_) (v := ?_) (by rfl) rfl ?_ ?_
    rotate_left 2
    ·go_simp
     constructor
     ·rfl
     ·rfl
    refine hK.out _ _ ⟨(blk_cell (blk_alloc BK274.out _) 0).trans rfl, (blk_cell (blk_alloc BK274.out _) 1).trans rfl, (blk_cell (blk_alloc BK274.out _) 2).trans rfl, (blk_cell (blk_alloc BK275.out _) 0).trans rfl, (blk_cell (blk_alloc BK275.out _) 1).trans rfl, (blk_cell (blk_alloc BK275.out _) 2).trans rfl, (blk_cell (blk_alloc BK275.out _) 3).trans rfl, (blk_cell (blk_alloc BK275.out _) 4).trans rfl, (World.cell?_alloc_lt _ _ _ (World.block_lt_of_cell? _ _ (Xn hw279_0))).trans (Xn hw279_0), (World.cell?_alloc_lt _ _ _ (World.block_lt_of_cell? _ _ (Xn hw281_0))).trans (Xn hw281_0), (World.cell?_alloc_lt _ _ _ (World.block_lt_of_cell? _ _ (Xn hw281_1))).trans (Xn hw281_1), (World.cell?_alloc_lt _ _ _ (World.block_lt_of_cell? _ _ (Xn hw281_2))).trans (Xn hw281_2), (World.cell?_alloc_lt _ _ _ (World.block_lt_of_cell? _ _ (Xn hw281_3))).trans (Xn hw281_3), (World.cell?_alloc_lt _ _ _ (World.block_lt_of_cell? _ _ (Xn hw281_4))).trans (Xn hw281_4)⟩ (fun hHeld => ?_)
    clear hK K
    refine Xno ?_
    refine one_ (i := 14) (N := some 29) (XW.bs 16 32767) rfl rfl (one_of HT_.out (by kernel_rfl)) (by decide) (fun K hK => ?_)
    refine Kd.R_append_step (Kd.int .i64) (w0 := w) w.heap.size (by rfl) (.tmp 15) (.tmp 28) 34 3 (.int .i64 0) 8 rfl Try.underlying34 info3 rfl (by decide) (by omega) u5 x5_1 ((rd_T88 l0_2 t280).f1) [.int .i64 ((rd_T88 l0_2 t280).f1)] (fun _ => True) (fun _ => False) rfl rfl ?aP (fun _ hk => hk.elim) ?aF ?aO ?aB ?aS ?aL ?_
    (case aP => exact rfl)
    (case aB => exact Xi)
    (case aF => exact (fun _ _ => trivial))
    (case aO => exact (Xq HO_5))
    (case aS => exact (below_size Xi))
    (case aL => have := LMc12.out; omega)
    intro v283 w17 ho hb hg hat
    rw [← Ny282.out] at ho
    replace BK274 := Aside0.mk (blk_grown (g := gb274) (o := .cells #[.int .i64 a0_0, .int .i64 a0_1, .slice (some ad281) l0_2.length c0_2] 29 (0, 0)) (Xq' BK274) hg (Kd.R_ne HO_5.out BK274.out (by decide)))
    replace BK275 := Aside0.mk (blk_grown (g := gb275) (o := .cells #[.int .i64 a1_0, .int .i64 a1_1, .int .i64 a1_2, .string a1_3, .slice (some ad279) l1_4.length c1_4] 88 (0, 0)) (Xq' BK275) hg (Kd.R_ne HO_5.out BK275.out (by decide)))
    replace HB := Aside0.mk (hb)
    have HO284 := Aside0.mk (ho)
    clear HO_5
    clear ho hb hg hat
    refine hK.out _ _ ⟨(blk_cell BK274.out 0).trans rfl, (blk_cell BK274.out 1).trans rfl, (blk_cell BK274.out 2).trans rfl, (blk_cell BK275.out 0).trans rfl, (blk_cell BK275.out 1).trans rfl, (blk_cell BK275.out 2).trans rfl, (blk_cell BK275.out 3).trans rfl, (blk_cell BK275.out 4).trans rfl, Xn hw279_0, Xn hw281_0, Xn hw281_1, Xn hw281_2, Xn hw281_3, Xn hw281_4⟩ (fun hHeld => ?_)
    clear hK K
    refine Xno ?_
    refine Xpu 15 5 (XW.bs 16 65535) HT_.out ?_
    refine done_ (done_of HT_.out (by kernel_rfl)) ?_
    try go_wp2_with (fail)
    go_roundg k1
    case measure => have := HK1.out; omega
    case rel => exact ⟨(y282), (wrap64 (x6_1 + 1)), Xr, H', Xk1, (Xp' HO284), (Xp BK274), (Xp BK275), ⟨Xi⟩⟩
   ·obtain rfl := Option.some.inj H
    have hnb18 := NB275_274.out
    have hnc18 := NB274_275.out
    obtain ⟨hcz19_0, hcz19_1, hcz19_2, hcz19_3, hcz19_4⟩ := Xc5 BK275
    go_wp2
    go_ret
    exact ⟨_, Xe, Xq HO_5, Xi⟩

end Go.Proofs.Ytfemohapampkiaa.XA
