/- Words and contracts of this claim. Conditions: each theorem's own premises. -/
import Derived.Test.YtahhgjkgfbppeaaGreatZ1
import Derived.Test.YtahhgjkgfbppeaaGreatZ2
namespace Go.Proofs.YtahhgjkgfbppeaaGreat.XA
open Go.RowKit Go.Proofs.YtahhgjkgfbppeaaGreatW.PrintWords Go.Proofs.YtahhgjkgfbppeaaGreatW.PrintLast Go.Proofs.YtahhgjkgfbppeaaGreatW.PrintMore XW
attribute [local go_sem] max2_int min2_int max_two min_two max_three min_three max_four min_four   -- for this text's walks alone
set_option linter.unusedVariables false
set_option linter.unusedSimpArgs false
set_option maxHeartbeats 8000000
set_option maxRecDepth 100000
mutual
def spec_l08Reach.l0 : Nat → List Int → List Int → Int → Int → List (S113) → List (S39) → List (S39) → Option (List Int)
 | 0, _, _, _, _, _, _, _ => none
 | k + 1, x7, x8, x395000, x395001, x395002, x396000, x396001 => if (x8.length : Int) > 0 then (if 0 < (x8.length : Int) then ((spec_l08At.f k x396000 x396001 (rd x8 0)).bind fun t10 => (if 1 ≤ (x8.length : Int) then ((some (x8.drop (1 : Int).toNat : List Int)).bind fun y11 => (if t10 < 0 then (spec_l08Reach.l0 k x7 y11 x395000 x395001 x395002 x396000 x396001) else ((spec_l08Blockers.f k x395000 x395001 x395002 x396000 x396001 t10).bind fun t12 => (spec_l08Reach.l1 k x7 y11 t12 0 x395000 x395001 x395002 x396000 x396001)))) else (none))) else (none)) else (some x7)
def spec_l08Reach.l1 : Nat → List Int → List Int → List Int → Int → Int → Int → List (S113) → List (S39) → List (S39) → Option (List Int)
 | 0, _, _, _, _, _, _, _, _, _ => none
 | k + 1, x7, x8, x10, x11, x395000, x395001, x395002, x396000, x396001 => if x11 < (x10.length : Int) then (if 0 ≤ x11 then ((spec_l02Has.f k x7 (rd x10 x11)).bind fun t12 => (if t12 = true then (spec_l08Reach.l1 k x7 x8 x10 (wrap64 (x11 + 1)) x395000 x395001 x395002 x396000 x396001) else (if x7.length < 17592186044416 then (if x8.length < 17592186044416 then (spec_l08Reach.l1 k (x7 ++ [rd x10 x11]) (x8 ++ [rd x10 x11]) x10 (wrap64 (x11 + 1)) x395000 x395001 x395002 x396000 x396001) else (none)) else (none)))) else (none)) else (spec_l08Reach.l0 k x7 x8 x395000 x395001 x395002 x396000 x396001)
end
def spec_l08Reach.f (k : Nat) (a0_0 : Int) (a0_1 : Int) (l0_2 : List (S113)) (l1_0 : List (S39)) (l1_1 : List (S39)) (a2 : Int) : Option (List Int) := spec_l08Reach.l0 k (([] : List Int)) (([a2] : List Int)) a0_0 a0_1 l0_2 l1_0 l1_1
theorem spec_l08Reach.calls (k : Nat) (a0_0 : Int) (a0_1 : Int) (A0_2 : Option Addr) (c0_2 : Nat) (l0_2 : List (S113)) (A1_0 : Option Addr) (c1_0 : Nat) (l1_0 : List (S39)) (A1_1 : Option Addr) (c1_1 : Nat) (l1_1 : List (S39)) (a2 : Int) (r : List Int) (w : World) (hr0_2 : Kd.C k113 w A0_2 l0_2.length l0_2) (hc0_2 : l0_2.length ≤ c0_2) (hr1_0 : Kd.C k39 w A1_0 l1_0.length l1_0) (hc1_0 : l1_0.length ≤ c1_0) (hr1_1 : Kd.C k39 w A1_1 l1_1.length l1_1) (hc1_1 : l1_1.length ≤ c1_1) (h : spec_l08Reach.f k a0_0 a0_1 l0_2 l1_0 l1_1 a2 = some r) :
  Calls Tryz.prog 113 #[.agg #[.int .i64 a0_0, .int .i64 a0_1, .slice A0_2 l0_2.length c0_2], .agg #[.slice A1_0 l1_0.length c1_0, .slice A1_1 l1_1.length c1_1], .int .i64 a2] w fun e w' => ∃ v0_ : Value, e = .returned (v0_) ∧ Kd.R (Kd.int .i64) 3 w' w.heap.size (fun _ => True) v0_ r ∧ Below w.heap.size w w' := by
 have hu35 := Tryz.underlying35
 have hu53 := Tryz.underlying53
 have HR0_2 := Am hr0_2
 have HC0_2 := Am hc0_2
 clear hr0_2 hc0_2
 have HR1_0 := Am hr1_0
 have HC1_0 := Am hc1_0
 clear hr1_0 hc1_0
 have HR1_1 := Am hr1_1
 have HC1_1 := Am hc1_1
 clear hr1_1 hc1_1
 have HB := Am (Below.refl w.heap.size w)
 have H : (spec_l08Reach.l0 k (([] : List Int)) (([a2] : List Int)) a0_0 a0_1 l0_2 l1_0 l1_1) = some r := h
 clear h
 obtain ⟨y38, hy38⟩ : ∃ y_ : List Int, y_ = (([] : List Int)) := ⟨_, rfl⟩
 replace H : (spec_l08Reach.l0 k y38 (([a2] : List Int)) a0_0 a0_1 l0_2 l1_0 l1_1) = some r := by first | (rw [hy38]; with_reducible exact H) | (have H2_ := (Option.bind_some _ _).symm.trans H; rw [hy38]; with_reducible exact H2_) | (have H2_ := (Option.bind_some _ _).symm.trans H; with_reducible exact H2_) | with_reducible exact H | (rw [hy38]; exact H) | exact H
 have Ny38 := Am hy38
 clear hy38
 obtain ⟨y40, hy40⟩ : ∃ y_ : List Int, y_ = (([a2] : List Int)) := ⟨_, rfl⟩
 replace H : (spec_l08Reach.l0 k y38 y40 a0_0 a0_1 l0_2 l1_0 l1_1) = some r := by first | (rw [hy40]; with_reducible exact H) | (have H2_ := (Option.bind_some _ _).symm.trans H; rw [hy40]; with_reducible exact H2_) | (have H2_ := (Option.bind_some _ _).symm.trans H; with_reducible exact H2_) | with_reducible exact H | (rw [hy40]; exact H) | exact H
 have Ny40 := Am hy40
 clear hy40
 have H' := Am H
 clear H
 go_enter Tryz.func113, Tryz.ntmps113
 go_wp2_with (first | ((with_reducible refine gate_dst (N := 3) rfl ?_); refine Xbx 3 #[.int .i64 a0_0, .int .i64 a0_1, .slice A0_2 l0_2.length c0_2] 35 ?_; intro gb41 hg w4 B41 GE41 hb; replace HB := Xhb hb; clear hb hg) | ((with_reducible refine gate_dst (N := 4) rfl ?_); refine Xbx 4 #[.slice A1_0 l1_0.length c1_0, .slice A1_1 l1_1.length c1_1] 53 ?_; intro gb42 hg w5 B42 GE42 hb; replace HB := Xhb hb; have NB41_42 := Xnb hg B41; have NB42_41 := Xns NB41_42; replace B41 := Xbb B41 hb; clear hb hg) | ((with_reducible refine gate_dst (N := 12) rfl ?_); refine Kd.R_lit (Kd.int .i64) _ 3 ?hg (N := 12) ?hd (xs := ([] : List Int)) (inner := []) (ok := fun _ => True) (okp := fun _ => True) ?hr ?hp (fun _ hk => hk) trivial (Below.refl _ _) (Nat.le_refl _) (by simp) ?_; (case hd => rfl); (case hg => rfl); (case hr => first | (go_simp; done) | (go_simp; rfl)); (case hp => exact (Reps.none _ _)); intro v397 w6 ho7 hb hg_ hnew_; clear hg_ hnew_; (first | rw [← Ny38.out] at ho7 | (simp only [Int.reduceToNat] at ho7; rw [← Ny38.out] at ho7)); have HO43 := Am (Kd.R_lower ho7 (below_size Xi)); replace B41 := Xbb B41 hb; replace B42 := Xbb B42 hb; replace HB := Xhb hb; clear hb ho7) | ((with_reducible refine gate_dst (N := 14) rfl ?_); refine Kd.R_lit (Kd.int .i64) _ 3 ?hg (N := 14) ?hd (xs := ([a2] : List Int)) (inner := [.int .i64 a2]) (ok := fun _ => True) (okp := fun _ => True) ?hr ?hp (fun _ hk => hk) trivial (Below.refl _ _) (Nat.le_refl _) (by simp) ?_; (case hd => rfl); (case hg => rfl); (case hr => first | (go_simp; done) | (go_simp; rfl)); (case hp => exact (Reps.one (show Kd.M (Kd.int .i64) _ _ _ a2 [.int .i64 a2] from rfl) (Reps.none _ _))); intro v400 w8 ho9 hb hg_ hnew_; clear hg_ hnew_; (first | rw [← Ny40.out] at ho9 | (simp only [Int.reduceToNat] at ho9; rw [← Ny40.out] at ho9)); have HO44 := Am (Kd.R_lower (Kd.R_new' ho9 (Kd.R_lt (Xq HO43))) (below_size Xi)); replace HO43 := Am (Kd.R_elder' (Xq HO43) (Kd.R_base ho9) hb); replace B41 := Xbb B41 hb; replace B42 := Xbb B42 hb; replace HB := Xhb hb; clear hb ho9))
 go_loopg [7, 8] k (fun kq v7 v8 w' => ∃ (x7_1 : List Int) (x8_1 : List Int), Aside0 (spec_l08Reach.l0 kq x7_1 x8_1 a0_0 a0_1 l0_2 l1_0 l1_1 = some r) ∧ Aside0 (kq ≤ k) ∧ Aside0 (Kd.R (Kd.int .i64) 3 w' w.heap.size (fun k_ => some k_ ≠ (v8 : Value).ownBlock) v7 x7_1) ∧ Aside0 (Kd.Q (Kd.int .i64) 3 w' w.heap.size (fun k_ => some k_ ≠ (v7 : Value).ownBlock) v8 x8_1) ∧ Aside0 (w'.heap[gb41]? = some (.cells #[.int .i64 a0_0, .int .i64 a0_1, (.slice A0_2 l0_2.length c0_2)] 35 (0, 0))) ∧ Aside0 (w'.heap[gb42]? = some (.cells #[(.slice A1_0 l1_0.length c1_0), (.slice A1_1 l1_1.length c1_1)] 53 (0, 0))) ∧ Aside0 (Below w.heap.size w w'))
 case atStart => exact ⟨(y38), (y40), H', Xkr, ⟨by (with_reducible repeat (first | apply Kd.R_alloc | apply Kd.R_drewN | apply Kd.R_drew)); exact Kd.R_mono HO43.out (fun _ hk => hk.2)⟩, ⟨Kd.Q_of_R (by (with_reducible repeat (first | apply Kd.R_alloc | apply Kd.R_drewN | apply Kd.R_drew)); exact Kd.R_mono HO44.out (fun _ hk => hk.2))⟩, (Xp B41), (Xp B42), ⟨Xi⟩⟩
 clear H'
 obtain ⟨x7_1, x8_1, HA, HK1, O_7, O_8, B41, B42, HB⟩ := hrel
 cases gk with | zero => cases HA.out | succ k1 => ?_
 have H := HA.out
 clear HA
 simp only [spec_l08Reach.l0] at H
 obtain ⟨c10, H⟩ | ⟨c10, H⟩ := Xiu H
 ·have c10b0 : decide (0 < (x8_1.length : Int)) = true := decide_eq_true c10
  have c10b1 : decide (0 < x8_1.length) = true := decide_eq_true (by omega)
  clear c10
  obtain ⟨c11, H⟩ := Xif H
  have c11b0 : decide (0 < (x8_1.length : Int)) = true := decide_eq_true c11
  have c11b1 : decide (0 < x8_1.length) = true := decide_eq_true (by omega)
  clear c11
  obtain ⟨t45, A12, H⟩ := Xbi H
  try dsimp only at H
  obtain ⟨c13, H⟩ := Xif H
  have c13b0 := eq_true c13
  have c13b1 : decide (1 ≤ (x8_1.length : Int)) = true := decide_eq_true c13
  clear c13
  obtain ⟨y46, hy46⟩ : ∃ y_ : List Int, y_ = (x8_1.drop (1 : Int).toNat) := ⟨_, rfl⟩
  replace H : (if t45 < 0 then (spec_l08Reach.l0 k1 x7_1 y46 a0_0 a0_1 l0_2 l1_0 l1_1) else ((spec_l08Blockers.f k1 a0_0 a0_1 l0_2 l1_0 l1_1 t45).bind fun t47 => (spec_l08Reach.l1 k1 x7_1 y46 t47 0 a0_0 a0_1 l0_2 l1_0 l1_1))) = some r := by first | (rw [hy46]; with_reducible exact H) | (have H2_ := (Option.bind_some _ _).symm.trans H; rw [hy46]; with_reducible exact H2_) | (have H2_ := (Option.bind_some _ _).symm.trans H; with_reducible exact H2_) | with_reducible exact H | (rw [hy46]; exact H) | exact H
  have Ny46 := Am hy46
  clear hy46
  have HC14 := Am H
  clear H
  obtain ⟨Ao15, co15, eo15, _⟩ := Kd.Q_slice O_8.out
  subst eo15
  try go_wp2_with (fail)
  replace O_7 := Am (Kd.R_drew O_7.out)
  replace O_8 := Am (Kd.Q_drew O_8.out)
  replace B41 := Xbd B41
  replace B42 := Xbd B42
  replace HB := Xhd HB
  have p48 : 0 ≤ (0 : Int) := (by omega)
  have q48 : 0 < (x8_1.length : Int) := Xo
  obtain ⟨ad48, e48, hx48_0⟩ := Kd.at_int (Kd.Q_reads' O_8.out).2.2 0 p48 q48
  cases e48
  have qi402 : (0 < x8_1.length) = True := eq_true (by omega)
  (try rw [show ((0 : Int)).toNat = 0 from rfl] at hx48_0)
  (try rw [Addr.add_zero'] at hx48_0)
  replace p48 := eq_true p48
  replace q48 := eq_true q48
  refine Sx 6 (fun w' => w'.cell? ⟨gb42, 0, none⟩ = some (.slice A1_0 l1_0.length c1_0) ∧ w'.cell? ⟨gb42, 1, none⟩ = some (.slice A1_1 l1_1.length c1_1) ∧ w'.cell? ad48 = some (.int .i64 (rd x8_1 0))) ⟨Xk B42 0, Xk B42 1, hx48_0⟩ (fun hHeld => ?_)
  generalize wr.drew = w16 at O_7 O_8 B41 B42 HB hx48_0 hHeld ⊢
  refine pure_ (i := 1) (N := some 19) (v := ?_) (a' := ?_) (XW.bs 6 2) rfl rfl (by kernel_rfl) (fun _ _ _ h => h) (Or.inl ⟨by rfl, ?_⟩) ?_ ?_
  rotate_left
  ·intro w'
   go_simp
   with_reducible rfl
  rotate_left
  ·simp only [XW.q0, XW.q1, XW.q2, i64_w, i32_w]
   rfl
  refine pure_ (i := 2) (N := some 20) (v := ?_) (a' := ?_) (XW.bs 6 6) rfl rfl (by kernel_rfl) (fun _ _ _ h => h) (Or.inl ⟨by rfl, ?_⟩) ?_ ?_
  rotate_left
  ·intro w'
   go_simp
   with_reducible rfl
  rotate_left
  ·simp only [XW.q0, XW.q1, XW.q2, i64_w, i32_w]
   rfl
  refine take_ (i := 0) (N := some 18) (v := ?_) (a' := ?_) (XW.bs 6 7) rfl rfl (by kernel_rfl) (fun _ _ _ h => h) (Or.inl ⟨by rfl, ?_⟩) hHeld ?_ ?_
  rotate_left
  ·rintro w' ⟨s0, s1, s2⟩
   go_simp
   with_reducible rfl
  rotate_left
  ·simp only [XW.q0, XW.q1, XW.q2, i64_w, i32_w]
   rfl
  refine take_ (i := 3) (N := some 21) (v := ?_) (a' := ?_) (XW.bs 6 15) rfl rfl (by kernel_rfl) (fun _ _ _ h => h) (Or.inl ⟨by rfl, ?_⟩) hHeld ?_ ?_
  rotate_left
  ·rintro w' ⟨s0, s1, s2⟩
   go_simp
   with_reducible rfl
  rotate_left
  ·simp only [XW.q0, XW.q1, XW.q2, i64_w, i32_w]
   rfl
  refine one_ (i := 4) (N := some 22) (XW.bs 6 31) rfl rfl (by kernel_rfl) (by decide) (fun K hK => ?_)
  refine Gs Tryz.func55 #[.agg #[.slice A1_0 l1_0.length c1_0, .slice A1_1 l1_1.length c1_1], .int .i64 (rd x8_1 0)] ?_
  with_reducible refine (spec_l08At.calls k1 _ _ l1_0 _ _ l1_1 (rd x8_1 0) t45 _ ?s1 ?s2 ?s3 ?s4 A12.out).mono ?_
  (case s1 => exact Xc HR1_0)
  (case s2 => exact HC1_0.out)
  (case s3 => exact Xc HR1_1)
  (case s4 => exact HC1_1.out)
  rintro e w17 ⟨rfl, hb⟩
  have HS2_ := (hb.cell (World.block_lt_of_cell? _ _ (hHeld.2.2))).trans (hHeld.2.2)
  refine ⟨_, rfl, ?_⟩
  replace O_7 := Am (Kd.R_below (Xq O_7) hb)
  replace O_8 := Am (Kd.Q_below (Xq O_8) hb)
  replace B41 := Xbb B41 hb
  replace B42 := Xbb B42 hb
  replace HB := Xhb hb
  try clear hb
  try clear hb2
  try clear hk
  try clear hi
  refine hK.out _ _ ⟨Xk B42 0, Xk B42 1, HS2_⟩ (fun hHeld => ?_)
  clear hK K
  refine Xno ?_
  refine pure_ (i := 5) (N := some 9) (v := ?_) (a' := ?_) (XW.bs 6 63) rfl rfl (by kernel_rfl) (fun _ _ _ h => h) (Or.inl ⟨by rfl, ?_⟩) ?_ ?_
  rotate_left
  ·intro w'
   go_simp
   with_reducible rfl
  rotate_left
  ·simp only [XW.q0, XW.q1, XW.q2, i64_w, i32_w]
   rfl
  refine done_ (by kernel_rfl) ?_
  have q18 : (1 : Int) ≤ ((x8_1.length : Int) : Int) := Xo
  obtain ⟨i018, hi018, _, hsz18, _⟩ := info_parts info3
  have hcut18 := cut_from (P := Tryz.prog) 30 3 .i64 Tryz.underlying30 hi018 1 hsz18 (some ad48) x8_1.length co15 1 (by omega) q18
  have hr18 := Kd.Q_drop (k := (1 : Int).toNat) O_8.out (by omega)
  obtain ⟨A18, hA18⟩ : ∃ A1, A1 = (if co15 = (1 : Int).toNat then (some ad48) else ((some ad48) : Option Addr).map (·.add ((1 : Int).toNat * 1))) := ⟨_, rfl⟩
  obtain ⟨c18, hc18⟩ : ∃ c1, c1 = co15 - (1 : Int).toNat := ⟨_, rfl⟩
  have hy18 : y46.length = x8_1.length - (1 : Int).toNat := (by rw [Ny46.out, List.length_drop])
  rw [← Ny46.out] at hr18
  rw [← hy18, ← hA18, ← hc18] at hcut18
  replace hr18 : Kd.Q (Kd.int .i64) 3 w17 w.heap.size (fun k_ => some k_ ≠ (u7 : Value).ownBlock) (.slice A18 y46.length c18) y46 := (by rw [hA18, hc18, hy18]; exact hr18)
  have HE18 : Aside0 ((Value.slice A18 y46.length c18).ownBlock = (.slice (some ad48) x8_1.length co15 : Value).ownBlock) := ⟨by rw [hA18]; split <;> (cases ((some ad48) : Option Addr) <;> rfl)⟩
  clear hy18 hi018 hsz18 O_8 hA18 hc18
  have HO49 := Am hr18
  clear hr18
  replace q18 := eq_true q18
  have n_ := Am (Kd.R_mono (ok' := fun k_ => some k_ ≠ (.slice A18 y46.length c18 : Value).ownBlock) O_7.out (fun k_ hk => (by rw [HE18.out]; exact hk)))
  clear O_7
  have O_7 := n_
  clear n_
  go_upto_if 26 with (fail)
  have H := HC14.out
  clear HC14
  obtain ⟨c19b0, H⟩ | ⟨c19b0, H⟩ := Xit H
  ·(first | rw [c19b0] | (simp only [i64_w, i32_w]; rw [c19b0]) | skip)
   have H' := Am H
   clear H
   go_wp2
   go_roundg k1
   case measure => have := HK1.out; omega
   case rel => exact ⟨(x7_1), (y46), H', Xk1, (Xp' O_7), (Xp' HO49), (Xp B41), (Xp B42), ⟨Xi⟩⟩
  (first | rw [c19b0] | (simp only [i64_w, i32_w]; rw [c19b0]) | skip)
  obtain ⟨t47, A20, H⟩ := Xbi H
  try dsimp only at H
  have H' := Am H
  clear H
  have hnb21 := NB41_42.out
  have hnc21 := NB42_41.out
  obtain ⟨Z22_0, Z22_1, Z22_2⟩ := Xc3 B41
  obtain ⟨Z23_0, Z23_1⟩ := Xc2 B42
  go_wp2_with (first | ((with_reducible refine gate_callee (f := 56) rfl ?_); refine Xgo 30 Tryz.func56 #[.agg #[.int .i64 a0_0, .int .i64 a0_1, .slice A0_2 l0_2.length c0_2], .agg #[.slice A1_0 l1_0.length c1_0, .slice A1_1 l1_1.length c1_1], .int .i64 t45] ?_; (with_reducible refine (spec_l08Blockers.calls k1 a0_0 a0_1 _ _ l0_2 _ _ l1_0 _ _ l1_1 t45 t47 _ ?s1 ?s2 ?s3 ?s4 ?s5 ?s6 A20.out).mono ?_); (case s1 => exact Xc HR0_2); (case s2 => exact HC0_2.out); (case s3 => exact Xc HR1_0); (case s4 => exact HC1_0.out); (case s5 => exact Xc HR1_1); (case s6 => exact HC1_1.out); rintro e w24 ⟨v408, rfl, ho0, hb⟩; refine ⟨_, rfl, ?_⟩; have HO50 := Am (Kd.R_lower (Kd.R_new' (Kd.R_new' ho0 (Kd.R_lt (Xq O_7))) (Kd.Q_lt (Xq HO49))) (below_size Xi)); replace O_7 := Am (Kd.R_elder' (Xq O_7) (Kd.R_base ho0) hb); replace HO49 := Am (Kd.Q_elder' (Xq HO49) (Kd.R_base ho0) hb); replace B41 := Xbb B41 hb; replace B42 := Xbb B42 hb; replace HB := Xhb hb; clear hb; (try clear ho0)))
  go_loopg [7, 8, 11] k1 (fun kq v7 v8 v11 w' => ∃ (x7_2 : List Int) (x8_2 : List Int) (x11_2 : Int), v11 = .int .i64 x11_2 ∧ Aside0 (spec_l08Reach.l1 kq x7_2 x8_2 t47 x11_2 a0_0 a0_1 l0_2 l1_0 l1_1 = some r) ∧ Aside0 (kq ≤ k1) ∧ Aside0 (Kd.R (Kd.int .i64) 3 w' w.heap.size (fun k_ => some k_ ≠ (v8 : Value).ownBlock ∧ some k_ ≠ (v408 : Value).ownBlock) v7 x7_2) ∧ Aside0 (Kd.Q (Kd.int .i64) 3 w' w.heap.size (fun k_ => some k_ ≠ (v7 : Value).ownBlock ∧ some k_ ≠ (v408 : Value).ownBlock) v8 x8_2) ∧ Aside0 (Kd.R (Kd.int .i64) 3 w' w.heap.size (fun k_ => some k_ ≠ (v7 : Value).ownBlock ∧ some k_ ≠ (v8 : Value).ownBlock) v408 t47) ∧ Aside0 (w'.heap[gb41]? = some (.cells #[.int .i64 a0_0, .int .i64 a0_1, (.slice A0_2 l0_2.length c0_2)] 35 (0, 0))) ∧ Aside0 (w'.heap[gb42]? = some (.cells #[(.slice A1_0 l1_0.length c1_0), (.slice A1_1 l1_1.length c1_1)] 53 (0, 0))) ∧ Aside0 (Below w.heap.size w w'))
  case atStart => exact ⟨(x7_1), (y46), (0), Xr, H', Xkr, (Xp' O_7), (Xp' HO49), ⟨by (with_reducible repeat (first | apply Kd.R_alloc | apply Kd.R_drewN | apply Kd.R_drew)); exact Kd.R_mono HO50.out (fun _ hk => ⟨hk.1.2, hk.2⟩)⟩, (Xp B41), (Xp B42), ⟨Xi⟩⟩
  clear H'
  (try clear c1); (try clear c10); (try clear c10b0); (try clear c10b1); (try clear c11); (try clear c11b0); (try clear c11b1); (try clear c13); (try clear c13b0); (try clear c13b1); (try clear c18); (try clear q18); (try clear c19); (try clear c19b0); (try clear Z22_0); (try clear Z22_1); (try clear Z22_2); (try clear Z23_0); (try clear Z23_1); (try clear hx48_0); (try clear p48); (try clear q18); (try clear q48)
  obtain ⟨x7_2, x8_2, x11_2, rfl, HA, HK2, O_7, O_8, O_10, B41, B42, HB⟩ := hrel
  cases gk with | zero => cases HA.out | succ k2 => ?_
  have H := HA.out
  clear HA
  simp only [spec_l08Reach.l1] at H
  obtain ⟨c25b0, H⟩ | ⟨c25b0, H⟩ := Xit H
  ·obtain ⟨c26b0, H⟩ := Xid H
   obtain ⟨t51, A27, H⟩ := Xbi H
   try dsimp only at H
   have HC28 := Am H
   clear H
   obtain ⟨Ao29, co29, eo29⟩ := Kd.R_slice O_10.out
   subst eo29
   have p52 : 0 ≤ (x11_2 : Int) := Xo
   have q52 : x11_2 < (t47.length : Int) := Xo
   obtain ⟨ad52, e52, hx52_0⟩ := Kd.at_int (Kd.R_reads' O_10.out).2.2 x11_2 p52 q52
   cases e52
   replace p52 := eq_true p52
   replace q52 := eq_true q52
   obtain ⟨Ao30, co30, eo30⟩ := Kd.R_slice O_7.out
   subst eo30
   go_upto_if 43 with ((with_reducible refine gate_callee (f := 104) rfl ?_); refine Xgo 42 Tryz.func104 #[.slice Ao30 x7_2.length co30, .int .i64 (rd t47 x11_2)] ?_; (with_reducible refine (spec_l02Has.calls k2 _ _ x7_2 (rd t47 x11_2) t51 _ ?s1 ?s2 A27.out).mono ?_); (case s1 => exact Xcd (Kd.R_reads' O_7.out).2.2); (case s2 => exact (Kd.R_reads' O_7.out).2.1); rintro e w' ⟨rfl, ⟨nd, rfl⟩⟩; refine ⟨_, rfl, ?_⟩)
   (try (rw [drewN_self wr]; generalize hq_ : World.drewN wr _ = wr; have n0_ : Aside0 (Kd.R (Kd.int .i64) 3 wr w.heap.size (fun k_ => some k_ ≠ (.slice Ao30 x7_2.length co30 : Value).ownBlock ∧ some k_ ≠ (u8 : Value).ownBlock) (.slice (some ad52) t47.length co29) t47) := ⟨by rw [← hq_]; exact (Xq O_10)⟩; have n1_ : Aside0 (Kd.R (Kd.int .i64) 3 wr w.heap.size (fun k_ => some k_ ≠ (u8 : Value).ownBlock ∧ some k_ ≠ (.slice (some ad52) t47.length co29 : Value).ownBlock) (.slice Ao30 x7_2.length co30) x7_2) := ⟨by rw [← hq_]; exact (Xq O_7)⟩; have n2_ : Aside0 (Kd.Q (Kd.int .i64) 3 wr w.heap.size (fun k_ => some k_ ≠ (.slice Ao30 x7_2.length co30 : Value).ownBlock ∧ some k_ ≠ (.slice (some ad52) t47.length co29 : Value).ownBlock) u8 x8_2) := ⟨by rw [← hq_]; exact (Xq O_8)⟩; have n3_ : Aside0 (wr.heap[gb41]? = some (.cells #[.int .i64 a0_0, .int .i64 a0_1, .slice A0_2 l0_2.length c0_2] 35 (0, 0))) := ⟨by rw [← hq_]; exact (Xq' B41)⟩; have n4_ : Aside0 (wr.heap[gb42]? = some (.cells #[.slice A1_0 l1_0.length c1_0, .slice A1_1 l1_1.length c1_1] 53 (0, 0))) := ⟨by rw [← hq_]; exact (Xq' B42)⟩; have n5_ : Aside0 (Below w.heap.size w wr) := ⟨by rw [← hq_]; exact Xi⟩; clear O_10 O_7 O_8 B41 B42 HB hq_; have O_10 := n0_; have O_7 := n1_; have O_8 := n2_; have B41 := n3_; have B42 := n4_; have HB := n5_; clear n0_ n1_ n2_ n3_ n4_ n5_))
   have H := HC28.out
   clear HC28
   by_cases c31 : t51 = true
   ·subst c31
    try rw [if_pos rfl] at H
    have H' := Am H
    clear H
    go_wp2
    go_roundg k2
    case measure => have := HK1.out; have := HK2.out; omega
    case rel => exact ⟨(x7_2), (x8_2), (wrap64 (x11_2 + 1)), Xr, H', ⟨by have := HK1.out; have := HK2.out; omega⟩, (Xp' O_7), (Xp' O_8), (Xp' O_10), (Xp B41), (Xp B42), ⟨Xi⟩⟩
   replace c31 := Xbf c31
   subst c31
   try rw [if_neg Xft] at H
   obtain ⟨c32, H⟩ := Xif H
   have LMc32 := Am c32
   clear c32
   obtain ⟨y54, hy54⟩ : ∃ y_ : List Int, y_ = (x7_2 ++ [rd t47 x11_2]) := ⟨_, rfl⟩
   replace H : (if x8_2.length < 17592186044416 then (spec_l08Reach.l1 k2 y54 (x8_2 ++ [rd t47 x11_2]) t47 (wrap64 (x11_2 + 1)) a0_0 a0_1 l0_2 l1_0 l1_1) else (none)) = some r := by first | (rw [hy54]; with_reducible exact H) | (have H2_ := (Option.bind_some _ _).symm.trans H; rw [hy54]; with_reducible exact H2_) | (have H2_ := (Option.bind_some _ _).symm.trans H; with_reducible exact H2_) | with_reducible exact H | (rw [hy54]; exact H) | exact H
   have Ny54 := Am hy54
   clear hy54
   obtain ⟨c33, H⟩ := Xif H
   have LMc33 := Am c33
   clear c33
   obtain ⟨y55, hy55⟩ : ∃ y_ : List Int, y_ = (x8_2 ++ [rd t47 x11_2]) := ⟨_, rfl⟩
   replace H : (spec_l08Reach.l1 k2 y54 y55 t47 (wrap64 (x11_2 + 1)) a0_0 a0_1 l0_2 l1_0 l1_1) = some r := by first | (rw [hy55]; with_reducible exact H) | (have H2_ := (Option.bind_some _ _).symm.trans H; rw [hy55]; with_reducible exact H2_) | (have H2_ := (Option.bind_some _ _).symm.trans H; with_reducible exact H2_) | with_reducible exact H | (rw [hy55]; exact H) | exact H
   have Ny55 := Am hy55
   clear hy55
   have H' := Am H
   clear H
   have p56 : 0 ≤ (x11_2 : Int) := Xo
   have q56 : x11_2 < (t47.length : Int) := Xo
   obtain ⟨ad56, e56, hx56_0⟩ := Kd.at_int (Kd.R_reads' O_10.out).2.2 x11_2 p56 q56
   obtain rfl : ad52 = ad56 := (by injection e56)
   replace p56 := eq_true p56
   replace q56 := eq_true q56
   go_wp2_with (first | ((with_reducible refine gate_builtin (b := .append) (xs := #[.tmp 44, .tmp 49]) rfl ?_); at_builtin; refine Kd.R_append (Kd.int .i64) (w0 := w) w.heap.size rfl (.tmp 44) (.tmp 49) 30 3 (.int .i64 0) 8 rfl Tryz.underlying30 info3 rfl (by decide) (by omega) (.slice Ao30 x7_2.length co30) x7_2 (rd t47 x11_2) [.int .i64 (rd t47 x11_2)] (fun k_ => some k_ ≠ (u8 : Value).ownBlock ∧ some k_ ≠ (.slice (some ad52) t47.length co29 : Value).ownBlock) (fun _ => False) rfl rfl ?aP (fun _ hk => hk.elim) ?aF ?aO ?aB ?aS ?aL ?_; (case aP => exact rfl); (case aB => exact Xi); (case aF => exact (fun k_ hk => ⟨Kd.fresh' (Kd.Q_lt (Xq O_8)) k_ hk, Kd.fresh' (Kd.R_lt (Xq O_10)) k_ hk⟩)); (case aO => exact (Xq O_7)); (case aS => exact (below_size Xi)); (case aL => have := LMc32.out; omega); intro v414 w34 ho hb hg hat; rw [← Ny54.out] at ho; replace O_8 := Am (Kd.Q_after (ok := (fun k_ => some k_ ≠ (.slice (some ad52) t47.length co29 : Value).ownBlock)) (by (with_reducible repeat (first | apply Kd.Q_alloc | apply Kd.Q_drewN | apply Kd.Q_drew)); exact Kd.Q_mono O_8.out (fun _ hk => ⟨hk.2, hk.1⟩)) hg hat); replace O_10 := Am (Kd.R_after (ok := (fun k_ => some k_ ≠ (u8 : Value).ownBlock)) (by (with_reducible repeat (first | apply Kd.R_alloc | apply Kd.R_drewN | apply Kd.R_drew)); exact Kd.R_mono O_10.out (fun _ hk => ⟨hk.2, hk.1⟩)) hg hat); replace B41 := Am (blk_grown (g := gb41) (o := .cells #[.int .i64 a0_0, .int .i64 a0_1, .slice A0_2 l0_2.length c0_2] 35 (0, 0)) (Xq' B41) hg (Kd.R_ne O_7.out B41.out (by decide))); replace B42 := Am (blk_grown (g := gb42) (o := .cells #[.slice A1_0 l1_0.length c1_0, .slice A1_1 l1_1.length c1_1] 53 (0, 0)) (Xq' B42) hg (Kd.R_ne O_7.out B42.out (by decide))); replace HB := Am (hb); have HO57 := Am (ho); clear O_7; clear ho hb hg hat; have p58 : 0 ≤ (x11_2 : Int) := Xo; have q58 : x11_2 < (t47.length : Int) := Xo; obtain ⟨ad58, e58, hx58_0⟩ := Kd.at_int (Kd.R_reads' O_10.out).2.2 x11_2 p58 q58; obtain rfl : ad52 = ad58 := (by injection e58); replace p58 := eq_true p58; replace q58 := eq_true q58) | ((with_reducible refine gate_builtin (b := .append) (xs := #[.tmp 51, .tmp 56]) rfl ?_); at_builtin; refine Kd.Q_append (Kd.int .i64) (w0 := w) w.heap.size rfl (.tmp 51) (.tmp 56) 30 3 (.int .i64 0) 8 rfl Tryz.underlying30 info3 rfl (by decide) (by omega) u8 x8_2 (rd t47 x11_2) [.int .i64 (rd t47 x11_2)] (fun k_ => some k_ ≠ (.slice (some ad52) t47.length co29 : Value).ownBlock ∧ some k_ ≠ (v414 : Value).ownBlock) (fun _ => False) rfl rfl ?aP (fun _ hk => hk.elim) ?aF ?aO ?aB ?aS ?aL ?_; (case aP => exact rfl); (case aB => exact Xi); (case aF => exact (fun k_ hk => ⟨Kd.fresh' (Kd.R_lt (Xq O_10)) k_ hk, Kd.fresh' (Kd.R_lt (Xq HO57)) k_ hk⟩)); (case aO => exact (Xq O_8)); (case aS => exact (below_size Xi)); (case aL => have := LMc33.out; omega); intro v418 w35 ho hb hg hat; rw [← Ny55.out] at ho; replace O_10 := Am (Kd.R_after (ok := (fun k_ => some k_ ≠ (v414 : Value).ownBlock)) (by (with_reducible repeat (first | apply Kd.R_alloc | apply Kd.R_drewN | apply Kd.R_drew)); exact Kd.R_mono O_10.out (fun _ hk => ⟨hk.2, hk.1⟩)) hg hat); replace B41 := Am (blk_grown (g := gb41) (o := .cells #[.int .i64 a0_0, .int .i64 a0_1, .slice A0_2 l0_2.length c0_2] 35 (0, 0)) (Xq' B41) hg (Kd.Q_ne O_8.out B41.out (by decide))); replace B42 := Am (blk_grown (g := gb42) (o := .cells #[.slice A1_0 l1_0.length c1_0, .slice A1_1 l1_1.length c1_1] 53 (0, 0)) (Xq' B42) hg (Kd.Q_ne O_8.out B42.out (by decide))); replace HO57 := Am (Kd.R_after (ok := (fun k_ => some k_ ≠ (.slice (some ad52) t47.length co29 : Value).ownBlock)) (by (with_reducible repeat (first | apply Kd.R_alloc | apply Kd.R_drewN | apply Kd.R_drew)); exact Kd.R_mono HO57.out (fun _ hk => ⟨hk.2, hk.1⟩)) hg hat); replace HB := Am (hb); have HO59 := Am (ho); clear O_8; clear ho hb hg hat))
   go_roundg k2
   case measure => have := HK1.out; have := HK2.out; omega
   case rel => exact ⟨(y54), (y55), (wrap64 (x11_2 + 1)), Xr, H', ⟨by have := HK1.out; have := HK2.out; omega⟩, ⟨by (with_reducible repeat (first | apply Kd.R_alloc | apply Kd.R_drewN | apply Kd.R_drew)); exact Kd.R_mono HO57.out (fun _ hk => ⟨hk.2, hk.1⟩)⟩, ⟨by (with_reducible repeat (first | apply Kd.Q_alloc | apply Kd.Q_drewN | apply Kd.Q_drew)); exact Kd.Q_mono HO59.out (fun _ hk => ⟨hk.2, hk.1⟩)⟩, (Xp' O_10), (Xp B41), (Xp B42), ⟨Xi⟩⟩
  have H' := Am H
  clear H
  obtain ⟨Ao36, co36, eo36⟩ := Kd.R_slice O_10.out
  subst eo36
  go_wp2
  go_roundg k2
  case measure => have := HK1.out; have := HK2.out; omega
  case rel => exact ⟨(x7_2), (x8_2), H', ⟨by have := HK1.out; have := HK2.out; omega⟩, ⟨by (with_reducible repeat (first | apply Kd.R_alloc | apply Kd.R_drewN | apply Kd.R_drew)); exact Kd.R_mono O_7.out (fun _ hk => hk.1)⟩, ⟨by (with_reducible repeat (first | apply Kd.Q_alloc | apply Kd.Q_drewN | apply Kd.Q_drew)); exact Kd.Q_mono O_8.out (fun _ hk => hk.1)⟩, (Xp B41), (Xp B42), ⟨Xi⟩⟩
 have c10b0 : decide (0 < (x8_1.length : Int)) = false := decide_eq_false c10
 have c10b1 : decide (0 < x8_1.length) = false := decide_eq_false (by omega)
 clear c10
 obtain rfl := Xsi H
 obtain ⟨Ao37, co37, eo37, _⟩ := Kd.Q_slice O_8.out
 subst eo37
 go_wp2
 go_ret
 exact ⟨_, Xe, by (with_reducible repeat (first | apply Kd.R_alloc | apply Kd.R_drewN | apply Kd.R_drew)); exact Kd.R_mono O_7.out (fun _ hk => trivial), Xi⟩
def spec_l08Circle.l0 : Nat → Int → List Int → List Int → Int → Int → Int → List (S113) → List (S39) → List (S39) → Option (List Int)
 | 0, _, _, _, _, _, _, _, _, _ => none
 | k + 1, x2, x7, x8, x9, x421000, x421001, x421002, x422000, x422001 => if x9 < (x8.length : Int) then (if 0 ≤ x9 then (if (rd x8 x9) = x2 then ((spec_l08Rise.f k x7 (rd x8 x9)).bind fun t10 => (spec_l08Circle.l0 k x2 t10 x8 (wrap64 (x9 + 1)) x421000 x421001 x421002 x422000 x422001)) else ((spec_l08Reach.f k x421000 x421001 x421002 x422000 x422001 (rd x8 x9)).bind fun t11 => ((spec_l02Has.f k t11 x2).bind fun t12 => (if t12 = true then ((spec_l08Rise.f k x7 (rd x8 x9)).bind fun t13 => (spec_l08Circle.l0 k x2 t13 x8 (wrap64 (x9 + 1)) x421000 x421001 x421002 x422000 x422001)) else (spec_l08Circle.l0 k x2 x7 x8 (wrap64 (x9 + 1)) x421000 x421001 x421002 x422000 x422001))))) else (none)) else (some x7)
def spec_l08Circle.f (k : Nat) (a0_0 : Int) (a0_1 : Int) (l0_2 : List (S113)) (l1_0 : List (S39)) (l1_1 : List (S39)) (a2 : Int) : Option (List Int) := (spec_l08Reach.f k a0_0 a0_1 l0_2 l1_0 l1_1 a2).bind fun t10 => (spec_l08Circle.l0 k a2 (([] : List Int)) t10 0 a0_0 a0_1 l0_2 l1_0 l1_1)
def spec_l08Circle.T6 : Bool × List (List Nat × List Nat) := (true, [([], []), ([], []), ([0, 1], [0, 1]), ([2], [2]), ([], []), ([3, 4], [3, 4]), ([5], [5]), ([6], [6]), ([6], [6]), ([6], [6]), ([6], [6]), ([9, 10, 6], [6, 9, 10]), ([11, 6], [6, 11]), ([7, 8, 12, 6, 6], [6, 7, 8, 12]), ([6], [6]), ([13, 14, 13, 6], [6, 13, 14]), ([6, 15], [6, 15])])
def spec_l08Circle.B6 : List Nat := [0, 0, 3, 7, 0, 31, 63, 127, 127, 127, 127, 1663, 3711, 8191, 127, 32767, 65535]
theorem spec_l08Circle.tab6 : rtab .any (opsOf Tryz.f60 6) = spec_l08Circle.T6 := by kernel_rfl
theorem spec_l08Circle.bits6 : waitsOk spec_l08Circle.T6.2 spec_l08Circle.B6 = true := by kernel_rfl
theorem spec_l08Circle.calls (k : Nat) (a0_0 : Int) (a0_1 : Int) (A0_2 : Option Addr) (c0_2 : Nat) (l0_2 : List (S113)) (A1_0 : Option Addr) (c1_0 : Nat) (l1_0 : List (S39)) (A1_1 : Option Addr) (c1_1 : Nat) (l1_1 : List (S39)) (a2 : Int) (r : List Int) (w : World) (hr0_2 : Kd.C k113 w A0_2 l0_2.length l0_2) (hc0_2 : l0_2.length ≤ c0_2) (hr1_0 : Kd.C k39 w A1_0 l1_0.length l1_0) (hc1_0 : l1_0.length ≤ c1_0) (hr1_1 : Kd.C k39 w A1_1 l1_1.length l1_1) (hc1_1 : l1_1.length ≤ c1_1) (h : spec_l08Circle.f k a0_0 a0_1 l0_2 l1_0 l1_1 a2 = some r) :
  Calls Tryz.prog 60 #[.agg #[.int .i64 a0_0, .int .i64 a0_1, .slice A0_2 l0_2.length c0_2], .agg #[.slice A1_0 l1_0.length c1_0, .slice A1_1 l1_1.length c1_1], .int .i64 a2] w fun e w' => ∃ v0_ : Value, e = .returned (v0_) ∧ Kd.R (Kd.int .i64) 3 w' w.heap.size (fun _ => True) v0_ r ∧ Below w.heap.size w w' := by
 have hu35 := Tryz.underlying35
 have hu53 := Tryz.underlying53
 have HR0_2 := Am hr0_2
 have HC0_2 := Am hc0_2
 clear hr0_2 hc0_2
 have HR1_0 := Am hr1_0
 have HC1_0 := Am hc1_0
 clear hr1_0 hc1_0
 have HR1_1 := Am hr1_1
 have HC1_1 := Am hc1_1
 clear hr1_1 hc1_1
 have HB := Am (Below.refl w.heap.size w)
 have H : ((spec_l08Reach.f k a0_0 a0_1 l0_2 l1_0 l1_1 a2).bind fun t33 => (spec_l08Circle.l0 k a2 (([] : List Int)) t33 0 a0_0 a0_1 l0_2 l1_0 l1_1)) = some r := h
 clear h
 obtain ⟨y34, hy34⟩ : ∃ y_ : List Int, y_ = (([] : List Int)) := ⟨_, rfl⟩
 replace H : ((spec_l08Reach.f k a0_0 a0_1 l0_2 l1_0 l1_1 a2).bind fun t33 => (spec_l08Circle.l0 k a2 y34 t33 0 a0_0 a0_1 l0_2 l1_0 l1_1)) = some r := by first | (rw [hy34]; with_reducible exact H) | (have H2_ := (Option.bind_some _ _).symm.trans H; rw [hy34]; with_reducible exact H2_) | (have H2_ := (Option.bind_some _ _).symm.trans H; with_reducible exact H2_) | with_reducible exact H | (rw [hy34]; exact H) | exact H
 have Ny34 := Am hy34
 clear hy34
 obtain ⟨t33, A4, H⟩ := Xbi H
 try dsimp only at H
 have H' := Am H
 clear H
 go_enter Tryz.func60, Tryz.ntmps60
 go_wp2_with (first | ((with_reducible refine gate_dst (N := 3) rfl ?_); refine Xbx 3 #[.int .i64 a0_0, .int .i64 a0_1, .slice A0_2 l0_2.length c0_2] 35 ?_; intro gb36 hg w5 B36 GE36 hb; replace HB := Xhb hb; clear hb hg) | ((with_reducible refine gate_dst (N := 4) rfl ?_); refine Xbx 4 #[.slice A1_0 l1_0.length c1_0, .slice A1_1 l1_1.length c1_1] 53 ?_; intro gb37 hg w6 B37 GE37 hb; replace HB := Xhb hb; have NB36_37 := Xnb hg B36; have NB37_36 := Xns NB36_37; replace B36 := Xbb B36 hb; clear hb hg) | ((with_reducible refine gate_dst (N := 10) rfl ?_); refine Kd.R_lit (Kd.int .i64) _ 3 ?hg (N := 10) ?hd (xs := ([] : List Int)) (inner := []) (ok := fun _ => True) (okp := fun _ => True) ?hr ?hp (fun _ hk => hk) trivial (Below.refl _ _) (Nat.le_refl _) (by simp) ?_; (case hd => rfl); (case hg => rfl); (case hr => first | (go_simp; done) | (go_simp; rfl)); (case hp => exact (Reps.none _ _)); intro v423 w7 ho8 hb hg_ hnew_; clear hg_ hnew_; (first | rw [← Ny34.out] at ho8 | (simp only [Int.reduceToNat] at ho8; rw [← Ny34.out] at ho8)); have HO38 := Am (Kd.R_lower ho8 (below_size Xi)); replace B36 := Xbb B36 hb; replace B37 := Xbb B37 hb; replace HB := Xhb hb; clear hb ho8; have hnb9 := NB36_37.out; have hnc9 := NB37_36.out; obtain ⟨Z10_0, Z10_1, Z10_2⟩ := Xc3 B36; obtain ⟨Z11_0, Z11_1⟩ := Xc2 B37) | ((with_reducible refine gate_callee (f := 113) rfl ?_); refine Xgo 14 Tryz.func113 #[.agg #[.int .i64 a0_0, .int .i64 a0_1, .slice A0_2 l0_2.length c0_2], .agg #[.slice A1_0 l1_0.length c1_0, .slice A1_1 l1_1.length c1_1], .int .i64 a2] ?_; (with_reducible refine (spec_l08Reach.calls k a0_0 a0_1 _ _ l0_2 _ _ l1_0 _ _ l1_1 a2 t33 _ ?s1 ?s2 ?s3 ?s4 ?s5 ?s6 A4.out).mono ?_); (case s1 => exact Xc HR0_2); (case s2 => exact HC0_2.out); (case s3 => exact Xc HR1_0); (case s4 => exact HC1_0.out); (case s5 => exact Xc HR1_1); (case s6 => exact HC1_1.out); rintro e w12 ⟨v426, rfl, ho0, hb⟩; refine ⟨_, rfl, ?_⟩; have HO40 := Am (Kd.R_lower (Kd.R_new' ho0 (Kd.R_lt (Xq HO38))) (below_size Xi)); replace HO38 := Am (Kd.R_elder' (Xq HO38) (Kd.R_base ho0) hb); replace B36 := Xbb B36 hb; replace B37 := Xbb B37 hb; replace HB := Xhb hb; clear hb; (try clear ho0)))
 go_loopg [7, 9] k (fun kq v7 v9 w' => ∃ (x7_1 : List Int) (x9_1 : Int), v9 = .int .i64 x9_1 ∧ Aside0 (spec_l08Circle.l0 kq a2 x7_1 t33 x9_1 a0_0 a0_1 l0_2 l1_0 l1_1 = some r) ∧ Aside0 (kq ≤ k) ∧ Aside0 (Kd.R (Kd.int .i64) 3 w' w.heap.size (fun k_ => some k_ ≠ (v426 : Value).ownBlock) v7 x7_1) ∧ Aside0 (Kd.R (Kd.int .i64) 3 w' w.heap.size (fun k_ => some k_ ≠ (v7 : Value).ownBlock) v426 t33) ∧ Aside0 (w'.heap[gb36]? = some (.cells #[.int .i64 a0_0, .int .i64 a0_1, (.slice A0_2 l0_2.length c0_2)] 35 (0, 0))) ∧ Aside0 (w'.heap[gb37]? = some (.cells #[(.slice A1_0 l1_0.length c1_0), (.slice A1_1 l1_1.length c1_1)] 53 (0, 0))) ∧ Aside0 (Below w.heap.size w w'))
 case atStart => exact ⟨(y34), (0), Xr, H', Xkr, ⟨by (with_reducible repeat (first | apply Kd.R_alloc | apply Kd.R_drewN | apply Kd.R_drew)); exact Kd.R_mono HO38.out (fun _ hk => hk.2)⟩, ⟨by (with_reducible repeat (first | apply Kd.R_alloc | apply Kd.R_drewN | apply Kd.R_drew)); exact Kd.R_mono HO40.out (fun _ hk => hk.2)⟩, B36, B37, ⟨Xi⟩⟩
 clear H'
 (try clear Z10_0); (try clear Z10_1); (try clear Z10_2); (try clear Z11_0); (try clear Z11_1)
 obtain ⟨x7_1, x9_1, rfl, HA, HK1, O_7, O_8, B36, B37, HB⟩ := hrel
 cases gk with | zero => cases HA.out | succ k1 => ?_
 have H := HA.out
 clear HA
 simp only [spec_l08Circle.l0] at H
 obtain ⟨c13b0, H⟩ | ⟨c13b0, H⟩ := Xit H
 ·obtain ⟨c14b0, H⟩ := Xid H
  obtain ⟨c15, H⟩ | ⟨c15, H⟩ := Xiu H
  ·have c15b0 : ((rd t33 x9_1) == a2) = true := beq_iff_eq.mpr c15
   have c15b1 : ((rd t33 x9_1) != a2) = false := bne_eq_false_iff_eq.mpr c15
   clear c15
   obtain ⟨t41, A16, H⟩ := Xbi H
   try dsimp only at H
   have H' := Am H
   clear H
   obtain ⟨Ao17, co17, eo17⟩ := Kd.R_slice O_8.out
   subst eo17
   try go_wp2_with (fail)
   replace O_7 := Am (Kd.R_drew O_7.out)
   replace O_8 := Am (Kd.R_drew O_8.out)
   replace B36 := Xbd B36
   replace B37 := Xbd B37
   replace HB := Xhd HB
   have p42 : 0 ≤ (x9_1 : Int) := Xo
   have q42 : x9_1 < (t33.length : Int) := Xo
   obtain ⟨ad42, e42, hx42_0⟩ := Kd.at_int (Kd.R_reads' O_8.out).2.2 x9_1 p42 q42
   cases e42
   replace p42 := eq_true p42
   replace q42 := eq_true q42
   refine start_ (n := 17) (S := fun w' => w'.cell? (ad42.add (x9_1).toNat) = some (.int .i64 (rd t33 x9_1))) (ds := []) #[false, false, false, false, false, false, false, false, false, false, false, false, false, false, false, false, false] (by kernel_rfl) rfl rfl (hx42_0) (fun hHeld => ?_); refine with_tabW spec_l08Circle.tab6 spec_l08Circle.bits6 (fun HT_ HW_ => ?_)
   generalize wr.drew = w18 at O_7 O_8 B36 B37 HB hx42_0 hHeld ⊢
   refine Pu 0 21 17 1 ?_
   refine Pu 1 22 17 3 ?_
   refine Pu 2 23 17 7 ?_
   refine Pu 4 25 17 23 ?_
   refine take_ (i := 3) (N := some 24) (v := ?_) (a' := ?_) (XW.bs 17 31) rfl rfl (take_ofW HT_.out HW_.out (by kernel_rfl)) (fun _ _ _ h => h) (Or.inl ⟨by rfl, ?_⟩) hHeld ?_ ?_
   rotate_left
   ·intro w' s0
    go_simp
    with_reducible rfl
   rotate_left
   ·simp only [XW.q0, XW.q1, XW.q2, i64_w, i32_w]
    rfl
   refine Pu 5 26 17 63 ?_
   refine Pu 6 27 17 127 ?_
   refine Pn 7 28 17 255 ?_
   refine Pn 8 29 17 511 ?_
   refine Pn 9 30 17 1023 ?_
   refine Pn 10 31 17 2047 ?_
   refine Pn 11 32 17 4095 ?_
   refine Pn 12 33 17 8191 ?_
   refine Pn 13 34 17 16383 ?_
   refine Pn 14 35 17 32767 ?_
   refine Pn 15 36 17 65535 ?_
   refine Pu 16 37 17 131071 ?_
   refine Dn ?_
   have p43 : 0 ≤ (x9_1 : Int) := Xo
   have q43 : x9_1 < (t33.length : Int) := Xo
   obtain ⟨ad43, e43, hx43_0⟩ := Kd.at_int (Kd.R_reads' O_8.out).2.2 x9_1 p43 q43
   obtain rfl : ad42 = ad43 := (by injection e43)
   replace p43 := eq_true p43
   replace q43 := eq_true q43
   obtain ⟨Ao19, co19, eo19⟩ := Kd.R_slice O_7.out
   subst eo19
   try go_wp2_with (first | ((with_reducible refine gate_callee (f := 105) rfl ?_); refine Xgo 43 Tryz.func105 #[.slice Ao19 x7_1.length co19, .int .i64 (rd t33 x9_1)] ?_; (with_reducible refine (spec_l08Rise.calls k1 _ _ x7_1 (rd t33 x9_1) t41 _ ?s1 ?s2 A16.out).mono ?_); (case s1 => exact Xcd (Kd.R_reads' O_7.out).2.2); (case s2 => exact (Kd.R_reads' O_7.out).2.1); rintro e w20 ⟨v431, rfl, ho0, hb⟩; refine ⟨_, rfl, ?_⟩; have HO44 := Am (Kd.R_lower (Kd.R_new' (Kd.R_new' ho0 (Kd.R_lt (Xq O_7))) (Kd.R_lt (Xq O_8))) (below_size Xi)); replace O_7 := Am (Kd.R_elder' (Xq O_7) (Kd.R_base ho0) hb); replace O_8 := Am (Kd.R_elder' (Xq O_8) (Kd.R_base ho0) hb); replace B36 := Xbb B36 hb; replace B37 := Xbb B37 hb; replace HB := Xhb hb; clear hb; (try clear ho0)))
   go_roundg k1
   case measure => have := HK1.out; omega
   case rel => exact ⟨(t41), (wrap64 (x9_1 + 1)), Xr, H', Xk1, ⟨by (with_reducible repeat (first | apply Kd.R_alloc | apply Kd.R_drewN | apply Kd.R_drew)); exact Kd.R_mono HO44.out (fun _ hk => hk.2)⟩, ⟨by (with_reducible repeat (first | apply Kd.R_alloc | apply Kd.R_drewN | apply Kd.R_drew)); exact Kd.R_mono O_8.out (fun _ hk => hk.2)⟩, B36, B37, ⟨Xi⟩⟩
  have c15b0 : ((rd t33 x9_1) == a2) = false := beq_eq_false_iff_ne.mpr c15
  have c15b1 : ((rd t33 x9_1) != a2) = true := bne_iff_ne.mpr c15
  obtain ⟨t45, A21, H⟩ := Xbi H
  try dsimp only at H
  obtain ⟨t46, A22, H⟩ := Xbi H
  try dsimp only at H
  have HC23 := Am H
  clear H
  obtain ⟨Ao24, co24, eo24⟩ := Kd.R_slice O_8.out
  subst eo24
  try go_wp2_with (fail)
  replace O_7 := Am (Kd.R_drew O_7.out)
  replace O_8 := Am (Kd.R_drew O_8.out)
  replace B36 := Xbd B36
  replace B37 := Xbd B37
  replace HB := Xhd HB
  have p42 : 0 ≤ (x9_1 : Int) := Xo
  have q42 : x9_1 < (t33.length : Int) := Xo
  obtain ⟨ad42, e42, hx42_0⟩ := Kd.at_int (Kd.R_reads' O_8.out).2.2 x9_1 p42 q42
  cases e42
  replace p42 := eq_true p42
  replace q42 := eq_true q42
  have p47 : 0 ≤ (x9_1 : Int) := Xo
  have q47 : x9_1 < (t33.length : Int) := Xo
  obtain ⟨ad47, e47, hx47_0⟩ := Kd.at_int (Kd.R_reads' O_8.out).2.2 x9_1 p47 q47
  obtain rfl : ad42 = ad47 := (by injection e47)
  replace p47 := eq_true p47
  replace q47 := eq_true q47
  refine Sx 17 (fun w' => w'.cell? ⟨gb36, 0, none⟩ = some (.int .i64 a0_0) ∧ w'.cell? ⟨gb36, 1, none⟩ = some (.int .i64 a0_1) ∧ w'.cell? ⟨gb36, 2, none⟩ = some (.slice A0_2 l0_2.length c0_2) ∧ w'.cell? ⟨gb37, 0, none⟩ = some (.slice A1_0 l1_0.length c1_0) ∧ w'.cell? ⟨gb37, 1, none⟩ = some (.slice A1_1 l1_1.length c1_1) ∧ w'.cell? (ad42.add (x9_1).toNat) = some (.int .i64 (rd t33 x9_1)) ∧ w'.cell? (ad42.add (x9_1).toNat) = some (.int .i64 (rd t33 x9_1))) ⟨Xk B36 0, Xk B36 1, Xk B36 2, Xk B37 0, Xk B37 1, hx42_0, hx47_0⟩ (fun hHeld => ?_); refine with_tabW spec_l08Circle.tab6 spec_l08Circle.bits6 (fun HT_ HW_ => ?_)
  generalize wr.drew = w25 at O_7 O_8 B36 B37 HB hx42_0 hx47_0 hHeld ⊢
  refine Pu 0 21 17 1 ?_
  refine Pu 1 22 17 3 ?_
  refine Pu 2 23 17 7 ?_
  refine Pu 4 25 17 23 ?_
  refine Ta 3 24 17 31 ?_
  refine Pu 5 26 17 63 ?_
  refine Pu 6 27 17 127 ?_
  refine Pu 9 30 17 639 ?_
  refine Pu 10 31 17 1663 ?_
  refine Pu 11 32 17 3711 ?_
  refine Pu 14 35 17 20095 ?_
  refine Ta 7 28 17 20223 ?_
  refine Ta 8 29 17 20479 ?_
  refine Ta 12 33 17 24575 ?_
  refine On 13 34 17 32767 (fun K hK => ?_)
  refine Gs Tryz.func113 #[.agg #[.int .i64 a0_0, .int .i64 a0_1, .slice A0_2 l0_2.length c0_2], .agg #[.slice A1_0 l1_0.length c1_0, .slice A1_1 l1_1.length c1_1], .int .i64 (rd t33 x9_1)] ?_
  with_reducible refine (spec_l08Reach.calls k1 a0_0 a0_1 _ _ l0_2 _ _ l1_0 _ _ l1_1 (rd t33 x9_1) t45 _ ?s1 ?s2 ?s3 ?s4 ?s5 ?s6 A21.out).mono ?_
  (case s1 => exact Xc HR0_2)
  (case s2 => exact HC0_2.out)
  (case s3 => exact Xc HR1_0)
  (case s4 => exact HC1_0.out)
  (case s5 => exact Xc HR1_1)
  (case s6 => exact HC1_1.out)
  rintro e w26 ⟨v435, rfl, ho0, hb⟩
  have HS5_ := (hb.cell (World.block_lt_of_cell? _ _ (hHeld.2.2.2.2.2.1))).trans (hHeld.2.2.2.2.2.1)
  have HS6_ := (hb.cell (World.block_lt_of_cell? _ _ (hHeld.2.2.2.2.2.2))).trans (hHeld.2.2.2.2.2.2)
  refine ⟨_, rfl, ?_⟩
  have HO48 := Am (Kd.R_lower (Kd.R_new' (Kd.R_new' ho0 (Kd.R_lt (Xq O_7))) (Kd.R_lt (Xq O_8))) (below_size Xi))
  replace O_7 := Am (Kd.R_elder' (Xq O_7) (Kd.R_base ho0) hb)
  replace O_8 := Am (Kd.R_elder' (Xq O_8) (Kd.R_base ho0) hb)
  replace B36 := Xbb B36 hb
  replace B37 := Xbb B37 hb
  replace HB := Xhb hb
  try clear hb
  try clear hb2
  try clear hk
  try clear hi
  try clear ho0
  obtain ⟨Ao27, co27, eo27⟩ := Kd.R_slice HO48.out
  (first | subst eo27 | (injection eo27 with f1_ f2_ f3_; have f4_ := f1_.symm; have f5_ := f3_.symm; clear f1_ f2_ f3_; subst f4_; subst f5_))
  refine hK.out _ _ ⟨Xk B36 0, Xk B36 1, Xk B36 2, Xk B37 0, Xk B37 1, HS5_, HS6_⟩ (fun hHeld => ?_)
  clear hK K
  refine Xno ?_
  refine On 15 36 17 65535 (fun K hK => ?_)
  refine Gs Tryz.func104 #[.slice Ao27 t45.length co27, .int .i64 a2] ?_
  with_reducible refine (spec_l02Has.calls k1 _ _ t45 a2 t46 _ ?s1 ?s2 A22.out).mono ?_
  (case s1 => exact Xcd (Kd.R_reads' HO48.out).2.2)
  (case s2 => exact (Kd.R_reads' HO48.out).2.1)
  rintro e w' ⟨rfl, ⟨nd, rfl⟩⟩
  refine ⟨_, rfl, ?_⟩
  refine hK.out _ _ ⟨Xk B36 0, Xk B36 1, Xk B36 2, Xk B37 0, Xk B37 1, hHeld.2.2.2.2.2.1, hHeld.2.2.2.2.2.2⟩ (fun hHeld => ?_)
  clear hK K
  refine Xno ?_
  refine Pu 16 37 17 131071 ?_
  refine Dn ?_
  go_upto_if 37 with (fail)
  (try (rw [drewN_self w26]; generalize hq_ : World.drewN w26 _ = w26; have n0_ : Aside0 (Kd.R (Kd.int .i64) 3 w26 w.heap.size (fun k_ => some k_ ≠ (u7 : Value).ownBlock ∧ some k_ ≠ (.slice (some ad42) t33.length co24 : Value).ownBlock) (.slice Ao27 t45.length co27) t45) := ⟨by rw [← hq_]; exact (by (with_reducible repeat (first | apply Kd.R_alloc | apply Kd.R_drewN | apply Kd.R_drew)); exact Kd.R_mono HO48.out (fun _ hk => ⟨hk.1.2, hk.2⟩))⟩; have n1_ : Aside0 (Kd.R (Kd.int .i64) 3 w26 w.heap.size (fun k_ => some k_ ≠ (.slice (some ad42) t33.length co24 : Value).ownBlock ∧ some k_ ≠ (.slice Ao27 t45.length co27 : Value).ownBlock) u7 x7_1) := ⟨by rw [← hq_]; exact (Xq O_7)⟩; have n2_ : Aside0 (Kd.R (Kd.int .i64) 3 w26 w.heap.size (fun k_ => some k_ ≠ (u7 : Value).ownBlock ∧ some k_ ≠ (.slice Ao27 t45.length co27 : Value).ownBlock) (.slice (some ad42) t33.length co24) t33) := ⟨by rw [← hq_]; exact (Xq O_8)⟩; have n3_ : Aside0 (w26.heap[gb36]? = some (.cells #[.int .i64 a0_0, .int .i64 a0_1, .slice A0_2 l0_2.length c0_2] 35 (0, 0))) := ⟨by rw [← hq_]; exact B36.out⟩; have n4_ : Aside0 (w26.heap[gb37]? = some (.cells #[.slice A1_0 l1_0.length c1_0, .slice A1_1 l1_1.length c1_1] 53 (0, 0))) := ⟨by rw [← hq_]; exact B37.out⟩; have n5_ : Aside0 (Below w.heap.size w w26) := ⟨by rw [← hq_]; exact Xi⟩; clear HO48 O_7 O_8 B36 B37 HB hq_; have HO48 := n0_; have O_7 := n1_; have O_8 := n2_; have B36 := n3_; have B37 := n4_; have HB := n5_; clear n0_ n1_ n2_ n3_ n4_ n5_))
  have H := HC23.out
  clear HC23
  by_cases c28 : t46 = true
  ·subst c28
   try rw [if_pos rfl] at H
   obtain ⟨t49, A29, H⟩ := Xbi H
   try dsimp only at H
   have H' := Am H
   clear H
   have p50 : 0 ≤ (x9_1 : Int) := Xo
   have q50 : x9_1 < (t33.length : Int) := Xo
   obtain ⟨ad50, e50, hx50_0⟩ := Kd.at_int (Kd.R_reads' O_8.out).2.2 x9_1 p50 q50
   obtain rfl : ad42 = ad50 := (by injection e50)
   replace p50 := eq_true p50
   replace q50 := eq_true q50
   obtain ⟨Ao30, co30, eo30⟩ := Kd.R_slice O_7.out
   subst eo30
   go_wp2_with (first | ((with_reducible refine gate_callee (f := 105) rfl ?_); refine Xgo 43 Tryz.func105 #[.slice Ao30 x7_1.length co30, .int .i64 (rd t33 x9_1)] ?_; (with_reducible refine (spec_l08Rise.calls k1 _ _ x7_1 (rd t33 x9_1) t49 _ ?s1 ?s2 A29.out).mono ?_); (case s1 => exact Xcd (Kd.R_reads' O_7.out).2.2); (case s2 => exact (Kd.R_reads' O_7.out).2.1); rintro e w31 ⟨v440, rfl, ho0, hb⟩; refine ⟨_, rfl, ?_⟩; have HO51 := Am (Kd.R_lower (Kd.R_new' (Kd.R_new' (Kd.R_new' ho0 (Kd.R_lt (Xq O_7))) (Kd.R_lt (Xq O_8))) (Kd.R_lt (Xq HO48))) (below_size Xi)); replace O_7 := Am (Kd.R_elder' (Xq O_7) (Kd.R_base ho0) hb); replace O_8 := Am (Kd.R_elder' (Xq O_8) (Kd.R_base ho0) hb); replace HO48 := Am (Kd.R_elder' (Xq HO48) (Kd.R_base ho0) hb); replace B36 := Xbb B36 hb; replace B37 := Xbb B37 hb; replace HB := Xhb hb; clear hb; (try clear ho0)))
   go_roundg k1
   case measure => have := HK1.out; omega
   case rel => exact ⟨(t49), (wrap64 (x9_1 + 1)), Xr, H', Xk1, ⟨by (with_reducible repeat (first | apply Kd.R_alloc | apply Kd.R_drewN | apply Kd.R_drew)); exact Kd.R_mono HO51.out (fun _ hk => hk.1.2)⟩, ⟨by (with_reducible repeat (first | apply Kd.R_alloc | apply Kd.R_drewN | apply Kd.R_drew)); exact Kd.R_mono O_8.out (fun _ hk => hk.2)⟩, B36, B37, ⟨Xi⟩⟩
  replace c28 := Xbf c28
  subst c28
  try rw [if_neg Xft] at H
  have H' := Am H
  clear H
  go_wp2
  go_roundg k1
  case measure => have := HK1.out; omega
  case rel => exact ⟨(x7_1), (wrap64 (x9_1 + 1)), Xr, H', Xk1, ⟨by (with_reducible repeat (first | apply Kd.R_alloc | apply Kd.R_drewN | apply Kd.R_drew)); exact Kd.R_mono O_7.out (fun _ hk => hk.1)⟩, ⟨by (with_reducible repeat (first | apply Kd.R_alloc | apply Kd.R_drewN | apply Kd.R_drew)); exact Kd.R_mono O_8.out (fun _ hk => hk.1)⟩, B36, B37, ⟨Xi⟩⟩
 obtain rfl := Xsi H
 obtain ⟨Ao32, co32, eo32⟩ := Kd.R_slice O_8.out
 subst eo32
 go_wp2
 go_ret
 exact ⟨_, Xe, by (with_reducible repeat (first | apply Kd.R_alloc | apply Kd.R_drewN | apply Kd.R_drew)); exact Kd.R_mono O_7.out (fun _ hk => trivial), Xi⟩
def spec_CircleOf.f (k : Nat) (a0_0 : Int) (a0_1 : Int) (l0_2 : List (S113)) (l1_0 : List (S39)) (l1_1 : List (S39)) (a2 : Int) : Option (List Int × Int) := (spec_l08Ask.f k a0_0 a0_1 l0_2 l1_0 l1_1 a2).bind fun t10 => (if t10 = 0 then ((spec_l08Circle.f k a0_0 a0_1 l0_2 l1_0 l1_1 a2).bind fun t11 => (some (t11, 0))) else (some ((([] : List Int)), t10)))
theorem spec_CircleOf.calls (k : Nat) (a0_0 : Int) (a0_1 : Int) (A0_2 : Option Addr) (c0_2 : Nat) (l0_2 : List (S113)) (A1_0 : Option Addr) (c1_0 : Nat) (l1_0 : List (S39)) (A1_1 : Option Addr) (c1_1 : Nat) (l1_1 : List (S39)) (a2 : Int) (r1 : List Int) (r2 : Int) (w : World) (hr0_2 : Kd.C k113 w A0_2 l0_2.length l0_2) (hc0_2 : l0_2.length ≤ c0_2) (hr1_0 : Kd.C k39 w A1_0 l1_0.length l1_0) (hc1_0 : l1_0.length ≤ c1_0) (hr1_1 : Kd.C k39 w A1_1 l1_1.length l1_1) (hc1_1 : l1_1.length ≤ c1_1) (h : spec_CircleOf.f k a0_0 a0_1 l0_2 l1_0 l1_1 a2 = some (r1, r2)) :
  Calls Tryz.prog 27 #[.agg #[.int .i64 a0_0, .int .i64 a0_1, .slice A0_2 l0_2.length c0_2], .agg #[.slice A1_0 l1_0.length c1_0, .slice A1_1 l1_1.length c1_1], .int .i64 a2] w fun e w' => ∃ v0_ : Value, e = .returned (.tuple #[v0_, .int .i64 r2]) ∧ Kd.R (Kd.int .i64) 3 w' w.heap.size (fun _ => True) v0_ r1 ∧ Below w.heap.size w w' := by
 have hu35 := Tryz.underlying35
 have hu53 := Tryz.underlying53
 have HR0_2 := Am hr0_2
 have HC0_2 := Am hc0_2
 clear hr0_2 hc0_2
 have HR1_0 := Am hr1_0
 have HC1_0 := Am hc1_0
 clear hr1_0 hc1_0
 have HR1_1 := Am hr1_1
 have HC1_1 := Am hc1_1
 clear hr1_1 hc1_1
 have HB := Am (Below.refl w.heap.size w)
 have H : ((spec_l08Ask.f k a0_0 a0_1 l0_2 l1_0 l1_1 a2).bind fun t20 => (if t20 = 0 then ((spec_l08Circle.f k a0_0 a0_1 l0_2 l1_0 l1_1 a2).bind fun t21 => (some (t21, 0))) else (some ((([] : List Int)), t20)))) = some (r1, r2) := h
 clear h
 obtain ⟨t20, A4, H⟩ := Xbi H
 try dsimp only at H
 have HC5 := Am H
 clear H
 go_enter Tryz.func27, Tryz.ntmps27
 go_upto_if 14 with (first | ((with_reducible refine gate_dst (N := 3) rfl ?_); refine Xbx 3 #[.int .i64 a0_0, .int .i64 a0_1, .slice A0_2 l0_2.length c0_2] 35 ?_; intro gb22 hg w6 B22 GE22 hb; replace HB := Xhb hb; clear hb hg) | ((with_reducible refine gate_dst (N := 4) rfl ?_); refine Xbx 4 #[.slice A1_0 l1_0.length c1_0, .slice A1_1 l1_1.length c1_1] 53 ?_; intro gb23 hg w7 B23 GE23 hb; replace HB := Xhb hb; have NB22_23 := Xnb hg B22; have NB23_22 := Xns NB22_23; replace B22 := Xbb B22 hb; clear hb hg; have hnb8 := NB22_23.out; have hnc8 := NB23_22.out; obtain ⟨Z9_0, Z9_1, Z9_2⟩ := Xc3 B22; obtain ⟨Z10_0, Z10_1⟩ := Xc2 B23) | ((with_reducible refine gate_callee (f := 54) rfl ?_); refine Xgo 12 Tryz.func54 #[.agg #[.int .i64 a0_0, .int .i64 a0_1, .slice A0_2 l0_2.length c0_2], .agg #[.slice A1_0 l1_0.length c1_0, .slice A1_1 l1_1.length c1_1], .int .i64 a2] ?_; (with_reducible refine (spec_l08Ask.calls k a0_0 a0_1 _ _ l0_2 _ _ l1_0 _ _ l1_1 a2 t20 _ ?s1 ?s2 ?s3 ?s4 ?s5 ?s6 A4.out).mono ?_); (case s1 => exact Xc HR0_2); (case s2 => exact HC0_2.out); (case s3 => exact Xc HR1_0); (case s4 => exact HC1_0.out); (case s5 => exact Xc HR1_1); (case s6 => exact HC1_1.out); rintro e w11 ⟨rfl, hb⟩; refine ⟨_, rfl, ?_⟩; replace B22 := Xbb B22 hb; replace B23 := Xbb B23 hb; replace HB := Xhb hb; clear hb))
 have H := HC5.out
 clear HC5
 obtain ⟨c12, H⟩ | ⟨c12, H⟩ := Xiu H
 ·have c12b0 : (t20 == 0) = true := beq_iff_eq.mpr c12
  have c12b1 : (t20 != 0) = false := bne_eq_false_iff_eq.mpr c12
  clear c12
  (first | rw [c12b0] | (simp only [i64_w, i32_w]; rw [c12b0]) | skip)
  obtain ⟨t21, A13, H⟩ := Xbi H
  try dsimp only at H
  simp only [Option.some.injEq, Prod.mk.injEq] at H
  obtain ⟨rfl, rfl⟩ := H
  have hnb14 := NB22_23.out
  have hnc14 := NB23_22.out
  obtain ⟨Z15_0, Z15_1, Z15_2⟩ := Xc3 B22
  obtain ⟨Z16_0, Z16_1⟩ := Xc2 B23
  go_wp2_with (first | ((with_reducible refine gate_callee (f := 60) rfl ?_); refine Xgo 20 Tryz.func60 #[.agg #[.int .i64 a0_0, .int .i64 a0_1, .slice A0_2 l0_2.length c0_2], .agg #[.slice A1_0 l1_0.length c1_0, .slice A1_1 l1_1.length c1_1], .int .i64 a2] ?_; (with_reducible refine (spec_l08Circle.calls k a0_0 a0_1 _ _ l0_2 _ _ l1_0 _ _ l1_1 a2 t21 _ ?s1 ?s2 ?s3 ?s4 ?s5 ?s6 A13.out).mono ?_); (case s1 => exact Xc HR0_2); (case s2 => exact HC0_2.out); (case s3 => exact Xc HR1_0); (case s4 => exact HC1_0.out); (case s5 => exact Xc HR1_1); (case s6 => exact HC1_1.out); rintro e w17 ⟨v446, rfl, ho0, hb⟩; refine ⟨_, rfl, ?_⟩; have HO24 := Am (Kd.R_lower ho0 (below_size Xi)); replace B22 := Xbb B22 hb; replace B23 := Xbb B23 hb; replace HB := Xhb hb; clear hb; (try clear ho0)))
  go_ret2
  exact ⟨_, Xe, Xq HO24, Xi⟩
 have c12b0 : (t20 == 0) = false := beq_eq_false_iff_ne.mpr c12
 have c12b1 : (t20 != 0) = true := bne_iff_ne.mpr c12
 (first | rw [c12b0] | (simp only [i64_w, i32_w]; rw [c12b0]) | skip)
 obtain ⟨y25, hy25⟩ : ∃ y_ : List Int, y_ = (([] : List Int)) := ⟨_, rfl⟩
 replace H : (some (y25, t20)) = some (r1, r2) := by first | (rw [hy25]; with_reducible exact H) | (have H2_ := (Option.bind_some _ _).symm.trans H; rw [hy25]; with_reducible exact H2_) | (have H2_ := (Option.bind_some _ _).symm.trans H; with_reducible exact H2_) | with_reducible exact H | (rw [hy25]; exact H) | exact H
 have Ny25 := Am hy25
 clear hy25
 simp only [Option.some.injEq, Prod.mk.injEq] at H
 obtain ⟨rfl, rfl⟩ := H
 go_wp2_with (first | ((with_reducible refine gate_dst (N := 15) rfl ?_); refine Kd.R_lit (Kd.int .i64) _ 3 ?hg (N := 15) ?hd (xs := ([] : List Int)) (inner := []) (ok := fun _ => True) (okp := fun _ => True) ?hr ?hp (fun _ hk => hk) trivial (Below.refl _ _) (Nat.le_refl _) (by simp) ?_; (case hd => rfl); (case hg => rfl); (case hr => first | (go_simp; done) | (go_simp; rfl)); (case hp => exact (Reps.none _ _)); intro v449 w18 ho19 hb hg_ hnew_; clear hg_ hnew_; (first | rw [← Ny25.out] at ho19 | (simp only [Int.reduceToNat] at ho19; rw [← Ny25.out] at ho19)); have HO26 := Am (Kd.R_lower ho19 (below_size Xi)); replace B22 := Xbb B22 hb; replace B23 := Xbb B23 hb; replace HB := Xhb hb; clear hb ho19))
 go_ret2
 exact ⟨_, Xe, Xq HO26, Xi⟩
def impl_within.f (a0 : Int) (a1 : Int) (a2 : Int) : Option (Bool) := if a0 ≥ a1 then (some (decide (a0 ≤ a2))) else (some false)
theorem impl_within.calls (a0 : Int) (a1 : Int) (a2 : Int) (r : Bool) (w : World) (h : impl_within.f a0 a1 a2 = some r) :
  Calls Tryz.prog 124 #[.int .i64 a0, .int .i64 a1, .int .i64 a2] w fun e w' => e = .returned (.bool r) ∧ Drawn0 w w' := by
 have H : (if a0 ≥ a1 then (some (decide (a0 ≤ a2))) else (some false)) = some r := h
 clear h
 obtain ⟨c4, H⟩ | ⟨c4, H⟩ := Xiu H
 ·have c4b0 : decide (a1 ≤ a0) = true := decide_eq_true c4
  clear c4
  obtain rfl := Xsi H
  go_enter Tryz.func124, Tryz.ntmps124
  go_wp2
  go_ret
  exact ⟨Xr, Xdr⟩
 have c4b0 : decide (a1 ≤ a0) = false := decide_eq_false c4
 clear c4
 obtain rfl := Xsi H
 go_enter Tryz.func124, Tryz.ntmps124
 go_wp2
 go_ret
 exact ⟨Xr, Xdr⟩
def impl_Doc_find_1.f (a0_0 : Int) (a0_1 : Int) (a0_2 : Int) (a0_3 : ByteArray) (l0_4 : List Int) (a1 : Int) : Option (Int) := some (wrap64 (a0_0 - a1))
theorem impl_Doc_find_1.calls (a0_0 : Int) (a0_1 : Int) (a0_2 : Int) (a0_3 : ByteArray) (A0_4 : Option Addr) (c0_4 : Nat) (l0_4 : List Int) (a1 : Int) (r : Int) (w : World) (hr0_4 : Kd.C (Kd.int .i64) w A0_4 l0_4.length l0_4) (hc0_4 : l0_4.length ≤ c0_4) (h : impl_Doc_find_1.f a0_0 a0_1 a0_2 a0_3 l0_4 a1 = some r) :
  Calls Tryz.prog 186 #[.agg #[.int .i64 a0_0, .int .i64 a0_1, .int .i64 a0_2, .string a0_3, .slice A0_4 l0_4.length c0_4], .int .i64 a1] w fun e w' => e = .returned (.int .i64 r) ∧ Below w.heap.size w w' := by
 have hu113 := Tryz.underlying113
 have HR0_4 := Am hr0_4
 have HC0_4 := Am hc0_4
 clear hr0_4 hc0_4
 have HB := Am (Below.refl w.heap.size w)
 have H : (some (wrap64 (a0_0 - a1))) = some r := h
 clear h
 obtain rfl := Xsi H
 go_enter Tryz.func186, Tryz.ntmps186
 go_wp2_with (first | ((with_reducible refine gate_dst (N := 2) rfl ?_); refine Xbx 2 #[.int .i64 a0_0, .int .i64 a0_1, .int .i64 a0_2, .string a0_3, .slice A0_4 l0_4.length c0_4] 113 ?_; intro gb10 hg w3 B10 GE10 hb; replace HB := Xhb hb; clear hb hg; obtain ⟨Z4_0, Z4_1, Z4_2, Z4_3, Z4_4⟩ := Xc5 B10))
 go_ret
 exact ⟨Xe, Xi⟩
def slices_BinarySearchFunc_impl_Node_impl_Node_int_at_impl_Doc_find_1.l0 : Nat → List (S113) → Int → Int → Int → Int → Option (Int × Bool)
 | 0, _, _, _, _, _ => none
 | k + 1, x0, x1, x8, x9, x10 => if x9 < x10 then (if 0 ≤ (wrap64 ((IntKind.u64.wrap (wrap64 (x9 + x10))) / 2)) then (if (wrap64 ((IntKind.u64.wrap (wrap64 (x9 + x10))) / 2)) < (x0.length : Int) then ((impl_Doc_find_1.f ((rd_T113 x0 (wrap64 ((IntKind.u64.wrap (wrap64 (x9 + x10))) / 2))).f0) ((rd_T113 x0 (wrap64 ((IntKind.u64.wrap (wrap64 (x9 + x10))) / 2))).f1) ((rd_T113 x0 (wrap64 ((IntKind.u64.wrap (wrap64 (x9 + x10))) / 2))).f2) ((rd_T113 x0 (wrap64 ((IntKind.u64.wrap (wrap64 (x9 + x10))) / 2))).f3) ((rd_T113 x0 (wrap64 ((IntKind.u64.wrap (wrap64 (x9 + x10))) / 2))).f4) x1).bind fun t11 => (if t11 < 0 then (slices_BinarySearchFunc_impl_Node_impl_Node_int_at_impl_Doc_find_1.l0 k x0 x1 x8 (wrap64 ((wrap64 ((IntKind.u64.wrap (wrap64 (x9 + x10))) / 2)) + 1)) x10) else (slices_BinarySearchFunc_impl_Node_impl_Node_int_at_impl_Doc_find_1.l0 k x0 x1 x8 x9 (wrap64 ((IntKind.u64.wrap (wrap64 (x9 + x10))) / 2))))) else (none)) else (none)) else (if x9 < x8 then (if 0 ≤ x9 then (if x9 < (x0.length : Int) then ((impl_Doc_find_1.f ((rd_T113 x0 x9).f0) ((rd_T113 x0 x9).f1) ((rd_T113 x0 x9).f2) ((rd_T113 x0 x9).f3) ((rd_T113 x0 x9).f4) x1).bind fun t12 => (some (x9, (t12 == 0)))) else (none)) else (none)) else (some (x9, false)))
def slices_BinarySearchFunc_impl_Node_impl_Node_int_at_impl_Doc_find_1.f (k : Nat) (l0 : List (S113)) (a1 : Int)  : Option (Int × Bool) := slices_BinarySearchFunc_impl_Node_impl_Node_int_at_impl_Doc_find_1.l0 k l0 a1 (l0.length : Int) 0 (l0.length : Int)
theorem slices_BinarySearchFunc_impl_Node_impl_Node_int_at_impl_Doc_find_1.calls (k : Nat) (A0 : Option Addr) (c0 : Nat) (l0 : List (S113)) (a1 : Int)  (r1 : Int) (r2 : Bool) (w : World) (hr0 : Kd.C k113 w A0 l0.length l0) (hc0 : l0.length ≤ c0) (h : slices_BinarySearchFunc_impl_Node_impl_Node_int_at_impl_Doc_find_1.f k l0 a1 = some (r1, r2)) :
  Calls Tryz.prog 185 #[.slice A0 l0.length c0, .int .i64 a1, .func (.func 186) #[] #[]] w fun e w' => e = .returned (.tuple #[.int .i64 r1, .bool r2]) ∧ Below w.heap.size w w' := by
 have hu113 := Tryz.underlying113
 have HR0 := Am hr0
 have HC0 := Am hc0
 clear hr0 hc0
 have HB := Am (Below.refl w.heap.size w)
 have H : (slices_BinarySearchFunc_impl_Node_impl_Node_int_at_impl_Doc_find_1.l0 k l0 a1 (l0.length : Int) 0 (l0.length : Int)) = some (r1, r2) := h
 clear h
 have H' := Am H
 clear H
 go_enter Tryz.func185, Tryz.ntmps185
 go_wp2
 go_loopg [9, 10] k (fun kq v9 v10 w' => ∃ (x9_1 : Int) (x10_1 : Int), v9 = .int .i64 x9_1 ∧ v10 = .int .i64 x10_1 ∧ Aside0 (slices_BinarySearchFunc_impl_Node_impl_Node_int_at_impl_Doc_find_1.l0 kq l0 a1 (l0.length : Int) x9_1 x10_1 = some (r1, r2)) ∧ Aside0 (kq ≤ k) ∧ Aside0 (Below w.heap.size w w'))
 case atStart => exact ⟨(0), ((l0.length : Int)), Xr, Xr, H', Xkr, ⟨Xi⟩⟩
 clear H'
 obtain ⟨x9_1, x10_1, rfl, rfl, HA, HK1, HB⟩ := hrel
 cases gk with | zero => cases HA.out | succ k1 => ?_
 have H := HA.out
 clear HA
 simp only [slices_BinarySearchFunc_impl_Node_impl_Node_int_at_impl_Doc_find_1.l0] at H
 obtain ⟨c4b0, H⟩ | ⟨c4b0, H⟩ := Xit H
 ·obtain ⟨ji5, hji5⟩ : ∃ j_ : Int, (wrap64 ((IntKind.u64.wrap (wrap64 (x9_1 + x10_1))) / 2)) = j_ := ⟨_, rfl⟩
  replace H : (if 0 ≤ (ji5) then (if (ji5) < (l0.length : Int) then ((impl_Doc_find_1.f ((rd_T113 l0 (ji5)).f0) ((rd_T113 l0 (ji5)).f1) ((rd_T113 l0 (ji5)).f2) ((rd_T113 l0 (ji5)).f3) ((rd_T113 l0 (ji5)).f4) a1).bind fun t17 => (if t17 < 0 then (slices_BinarySearchFunc_impl_Node_impl_Node_int_at_impl_Doc_find_1.l0 k1 l0 a1 (l0.length : Int) (wrap64 ((ji5) + 1)) x10_1) else (slices_BinarySearchFunc_impl_Node_impl_Node_int_at_impl_Doc_find_1.l0 k1 l0 a1 (l0.length : Int) x9_1 ji5))) else (none)) else (none)) = some (r1, r2) := by first | (rw [hji5] at H; exact H) | (simp only [hji5] at H ⊢; exact H)
  have hji5w : (IntKind.i64.wrap ((IntKind.u64.wrap (wrap64 (x9_1 + x10_1))) / 2)) = ji5 := (i64_w _).trans hji5
  obtain ⟨c6b0, H⟩ := Xid H
  obtain ⟨c7b0, H⟩ := Xid H
  obtain ⟨t17, A8, H⟩ := Xbi H
  try dsimp only at H
  have HC9 := Am H
  clear H
  obtain ⟨ad18, A453_4, c453_4, e18, p18, q18, hx18_0, hx18_1, hx18_2, hx18_3, hx18_4, HC18_4, HR18_4⟩ := at_B113 HR0 (ji5) Xa Xa HB
  cases e18
  go_upto_if 31 with (go_at_call 186; (with_reducible refine (impl_Doc_find_1.calls ((rd_T113 l0 (ji5)).f0) ((rd_T113 l0 (ji5)).f1) ((rd_T113 l0 (ji5)).f2) ((rd_T113 l0 (ji5)).f3) _ _ ((rd_T113 l0 (ji5)).f4) a1 t17 _ ?s1 ?s2 A8.out).mono ?_); (case s1 => exact Xc HR18_4); (case s2 => exact HC18_4.out); rintro e w10 ⟨rfl, hb⟩; replace HB := Xhb hb; clear hb)
  have H := HC9.out
  clear HC9
  obtain ⟨c11b0, H⟩ | ⟨c11b0, H⟩ := Xit H
  ·(first | rw [c11b0] | (simp only [i64_w, i32_w]; rw [c11b0]) | skip)
   have H' := Am H
   clear H
   go_wp2
   go_roundg k1
   case measure => have := HK1.out; omega
   case rel => exact ⟨(wrap64 ((ji5) + 1)), (x10_1), (by first | rfl | (simp; done) | (simp only [← hji5] <;> (first | rfl | simp)) | (simp [*]; done)), Xr, H', Xk1, ⟨Xi⟩⟩
  (first | rw [c11b0] | (simp only [i64_w, i32_w]; rw [c11b0]) | skip)
  have H' := Am H
  clear H
  go_wp2
  go_roundg k1
  case measure => have := HK1.out; omega
  case rel => exact ⟨(x9_1), (ji5), Xr, (by first | rfl | (simp; done) | (simp only [← hji5] <;> (first | rfl | simp)) | (simp [*]; done)), H', Xk1, ⟨Xi⟩⟩
 obtain ⟨c12b0, H⟩ | ⟨c12b0, H⟩ := Xit H
 ·obtain ⟨c13b0, H⟩ := Xid H
  obtain ⟨c14b0, H⟩ := Xid H
  obtain ⟨t19, A15, H⟩ := Xbi H
  try dsimp only at H
  simp only [Option.some.injEq, Prod.mk.injEq] at H
  obtain ⟨rfl, rfl⟩ := H
  obtain ⟨ad20, A455_4, c455_4, e20, p20, q20, hx20_0, hx20_1, hx20_2, hx20_3, hx20_4, HC20_4, HR20_4⟩ := at_B113 HR0 x9_1 Xa Xa HB
  cases e20
  go_wp2_with (first | (go_at_call 186; (with_reducible refine (impl_Doc_find_1.calls ((rd_T113 l0 x9_1).f0) ((rd_T113 l0 x9_1).f1) ((rd_T113 l0 x9_1).f2) ((rd_T113 l0 x9_1).f3) _ _ ((rd_T113 l0 x9_1).f4) a1 t19 _ ?s1 ?s2 A15.out).mono ?_); (case s1 => exact Xc HR20_4); (case s2 => exact HC20_4.out); rintro e w16 ⟨rfl, hb⟩; replace HB := Xhb hb; clear hb))
  go_ret2
  exact ⟨Xe, Xi⟩
 simp only [Option.some.injEq, Prod.mk.injEq] at H
 obtain ⟨rfl, rfl⟩ := H
 go_wp2
 go_ret2
 exact ⟨Xe, Xi⟩
end Go.Proofs.YtahhgjkgfbppeaaGreat.XA
section
namespace Go.Proofs.YtahhgjkgfbppeaaGreat.XA
set_option linter.unusedVariables false
open Go.RowKit Go.Proofs.YtahhgjkgfbppeaaGreatW.PrintWords Go.Proofs.YtahhgjkgfbppeaaGreatW.PrintLast Go.Proofs.YtahhgjkgfbppeaaGreatW.PrintMore
def impl_Doc_find.f (k : Nat) (a0_0 : Int) (a0_1 : Int) (l0_2 : List S113) (a1 : Int) : Option Int :=
  (slices_BinarySearchFunc_impl_Node_impl_Node_int_at_impl_Doc_find_1.f k l0_2 a1).bind fun t => if t.2 = true then (if 0 ≤ t.1 then (if t.1 < (l0_2.length : Int) then some t.1 else none) else none) else some (-1)
set_option maxHeartbeats 8000000 in
set_option maxRecDepth 100000 in
theorem impl_Doc_find.calls (k : Nat) (g0_ : Nat) (a0_0 : Int) (a0_1 : Int) (A0_2 : Option Addr) (c0_2 : Nat) (l0_2 : List (S113)) (a1 : Int) (r : Int) (w : World) (hg0_ : w.heap[g0_]? = some (.cells #[.int .i64 a0_0, .int .i64 a0_1, .slice A0_2 l0_2.length c0_2] 35 (0, 0))) (hr0_2 : Kd.C k113 w A0_2 l0_2.length l0_2) (hc0_2 : l0_2.length ≤ c0_2) (h : impl_Doc_find.f k a0_0 a0_1 l0_2 a1 = some r) :
    Calls Tryz.prog 162 #[.pointer (some ⟨g0_, 0, none⟩), .int .i64 a1] w fun e w' => ∃ p : Option Addr, e = .returned (.pointer p) ∧ (r < 0 → p = none) ∧ (0 ≤ r → ∃ ad, A0_2 = some ad ∧ p = some (ad.add (r.toNat * 5))) ∧ Below w.heap.size w w' := by
  have HR := Aside0.mk hr0_2
  have HC := Aside0.mk hc0_2
  have HB := Aside0.mk (Below.refl w.heap.size w)
  have hcz_2 : w.cell? ⟨g0_, 2, none⟩ = some (.slice A0_2 l0_2.length c0_2) := (blk_cell hg0_ 2).trans rfl
  have hfz_2 := blk_frozen hg0_ 2
  clear hr0_2 hc0_2
  obtain ⟨⟨i, ok⟩, hbs, h⟩ := Option.bind_eq_some_iff.mp h
  have A1 := Aside0.mk hbs
  clear hbs
  cases ok with
  | false =>
    obtain rfl : -1 = r := by simpa using h
    clear h
    go_enter Tryz.func162, Tryz.ntmps162
    go_wp2_with (first | ((with_reducible refine gate_callee (f := 185) rfl ?_); refine goesL_ (some 13) rfl rfl Tryz.func185 (by kernel_rfl) rfl #[.slice A0_2 l0_2.length c0_2, .int .i64 a1, .func (.func 186) #[] #[]] rfl (by (try simp only [List.map_toArray, List.map_cons, List.map_nil]); first | done | rfl) ?_; (with_reducible refine (slices_BinarySearchFunc_impl_Node_impl_Node_int_at_impl_Doc_find_1.calls k _ _ l0_2 a1 i false _ ?side1 ?side2 A1.out).mono ?_); (case side1 => exact HR.out); (case side2 => exact HC.out); rintro e w2 ⟨rfl, hb⟩; refine ⟨_, rfl, ?_⟩))
    go_ret
    exact ⟨none, by first | rfl | simp, fun _ => rfl, fun h0 => absurd h0 (by decide), hb⟩
  | true =>
    have h0 : 0 ≤ i ∧ i < (l0_2.length : Int) ∧ i = r := by
      simp only [if_true] at h
      by_cases p : 0 ≤ i
      · rw [if_pos p] at h
        by_cases q : i < (l0_2.length : Int)
        · rw [if_pos q] at h; exact ⟨p, q, Option.some.inj h⟩
        · rw [if_neg q] at h; cases h
      · rw [if_neg p] at h; cases h
    obtain ⟨p0, q0, rfl⟩ := h0
    clear h
    obtain ⟨ad, hA⟩ : ∃ ad, A0_2 = some ad := by
      obtain ⟨ad, _, _, e, _⟩ := at_T113 HR.out i p0 q0
      exact ⟨ad, e⟩
    subst hA
    have p1 := eq_true p0
    have q1 := eq_true q0
    go_enter Tryz.func162, Tryz.ntmps162
    go_wp2_with (first | ((with_reducible refine gate_callee (f := 185) rfl ?_); refine goesL_ (some 13) rfl rfl Tryz.func185 (by kernel_rfl) rfl #[.slice (some ad) l0_2.length c0_2, .int .i64 a1, .func (.func 186) #[] #[]] rfl (by (try simp only [List.map_toArray, List.map_cons, List.map_nil]); first | done | rfl) ?_; (with_reducible refine (slices_BinarySearchFunc_impl_Node_impl_Node_int_at_impl_Doc_find_1.calls k _ _ l0_2 a1 i true _ ?side1 ?side2 A1.out).mono ?_); (case side1 => exact HR.out); (case side2 => exact HC.out); rintro e w2 ⟨rfl, hb⟩; refine ⟨_, rfl, ?_⟩; have hczw := (hb.cell (World.block_lt_of_cell? w _ hcz_2)).trans hcz_2))
    go_ret
    exact ⟨_, by first | rfl | simp, fun h0 => absurd p0 (by omega), fun _ => ⟨ad, rfl, rfl⟩, hb⟩
end Go.Proofs.YtahhgjkgfbppeaaGreat.XA
end
namespace Go.Proofs.YtahhgjkgfbppeaaGreat.XA
open Go.RowKit Go.Proofs.YtahhgjkgfbppeaaGreatW.PrintWords Go.Proofs.YtahhgjkgfbppeaaGreatW.PrintLast Go.Proofs.YtahhgjkgfbppeaaGreatW.PrintMore XW
attribute [local go_sem] max2_int min2_int max_two min_two max_three min_three max_four min_four   -- for this text's walks alone
set_option linter.unusedVariables false
set_option linter.unusedSimpArgs false
set_option maxHeartbeats 8000000
set_option maxRecDepth 100000
def impl_Doc_has.f (k : Nat) (a0_0 : Int) (a0_1 : Int) (l0_2 : List (S113)) (a1 : Int) : Option (Bool) := (impl_Doc_find.f k a0_0 a0_1 l0_2 a1).bind fun t10 => (if t10 < 0 then (some false) else (some true))
theorem impl_Doc_has.calls (k : Nat) (g0_ : Nat) (a0_0 : Int) (a0_1 : Int) (A0_2 : Option Addr) (c0_2 : Nat) (l0_2 : List (S113)) (a1 : Int) (r : Bool) (w : World) (hg0_ : w.heap[g0_]? = some (.cells #[.int .i64 a0_0, .int .i64 a0_1, .slice A0_2 l0_2.length c0_2] 35 (0, 0))) (hr0_2 : Kd.C k113 w A0_2 l0_2.length l0_2) (hc0_2 : l0_2.length ≤ c0_2) (h : impl_Doc_has.f k a0_0 a0_1 l0_2 a1 = some r) :
  Calls Tryz.prog 125 #[.pointer (some ⟨g0_, 0, none⟩), .int .i64 a1] w fun e w' => e = .returned (.bool r) ∧ Below w.heap.size w w' := by
 have HR0_2 := Am hr0_2
 have HC0_2 := Am hc0_2
 clear hr0_2 hc0_2
 have B0 := Am hg0_
 clear hg0_
 have HB := Am (Below.refl w.heap.size w)
 have H : ((impl_Doc_find.f k a0_0 a0_1 l0_2 a1).bind fun t10 => (if t10 < 0 then (some false) else (some true))) = some r := h
 clear h
 obtain ⟨t10, A3, H⟩ := Xbi H
 try dsimp only at H
 obtain ⟨c4b0, H⟩ | ⟨c4b0, H⟩ := Xit H
 ·obtain rfl := Xsi H
  go_enter Tryz.func125, Tryz.ntmps125
  go_wp2_with (first | ((with_reducible refine gate_callee (f := 162) rfl ?_); refine Xgo 7 Tryz.func162 #[.pointer (some ⟨g0_, 0, none⟩), .int .i64 a1] ?_; (with_reducible refine (impl_Doc_find.calls k g0_ a0_0 a0_1 A0_2 c0_2 l0_2 a1 t10 _ ?s1 ?s2 ?s3 A3.out).mono ?_); (case s1 => exact B0.out); (case s2 => exact Xcd HR0_2.out); (case s3 => exact HC0_2.out); rintro e w5 ⟨pF, rfl, hpn, hps, hb⟩; refine ⟨_, rfl, ?_⟩; obtain rfl := hpn (Xo); clear hps; replace B0 := Xbb B0 hb; replace HB := Xhb hb; clear hb))
  go_ret
  exact ⟨Xe, Xi⟩
 obtain rfl := Xsi H
 go_enter Tryz.func125, Tryz.ntmps125
 go_wp2_with (first | ((with_reducible refine gate_callee (f := 162) rfl ?_); refine Xgo 7 Tryz.func162 #[.pointer (some ⟨g0_, 0, none⟩), .int .i64 a1] ?_; (with_reducible refine (impl_Doc_find.calls k g0_ a0_0 a0_1 A0_2 c0_2 l0_2 a1 t10 _ ?s1 ?s2 ?s3 A3.out).mono ?_); (case s1 => exact B0.out); (case s2 => exact Xcd HR0_2.out); (case s3 => exact HC0_2.out); rintro e w6 ⟨pF, rfl, hpn, hps, hb⟩; refine ⟨_, rfl, ?_⟩; obtain ⟨adf7, hae, rfl⟩ := hps (Int.not_lt.mp (of_decide_eq_false Xa)); clear hpn; cases hae; replace B0 := Xbb B0 hb; replace HB := Xhb hb; clear hb))
 go_ret
 exact ⟨Xe, Xi⟩
mutual
def impl_Doc_depth.l0 : Nat → Int → Int → List Int → Int → Int → Int → Int → List (S113) → Option (Int)
 | 0, _, _, _, _, _, _, _, _ => none
 | k + 1, x2, x7, x17, x18, x19, x1000, x1001, x1002 => if x19 < x18 then (if 0 ≤ x19 then (if x19 < (x17.length : Int) then ((impl_Doc_depth.f k x1000 x1001 x1002 (rd x17 x19) (wrap64 (x2 + 1))).bind fun t10 => (impl_Doc_depth.l0 k x2 (mx x7 t10) x17 x18 (wrap64 (x19 + 1)) x1000 x1001 x1002)) else (none)) else (none)) else (some (wrap64 (x7 + 1)))
def impl_Doc_depth.f : Nat → Int → Int → List (S113) → Int → Int → Option (Int)
 | 0, _, _, _, _, _ => none
 | k + 1, a0_0, a0_1, l0_2, a1, a2 => if a2 > 6 then (some 0) else ((impl_Doc_find.f k a0_0 a0_1 l0_2 a1).bind fun t10 => (if t10 < 0 then (none) else (if 0 ≤ t10 then (if t10 < (l0_2.length : Int) then (impl_Doc_depth.l0 k a2 0 ((rd_T113 l0_2 t10).f4) (((rd_T113 l0_2 t10).f4).length : Int) 0 a0_0 a0_1 l0_2) else (none)) else (none))))
end
theorem impl_Doc_depth.calls (k : Nat) : ∀ (g0_ : Nat) (a0_0 : Int) (a0_1 : Int) (A0_2 : Option Addr) (c0_2 : Nat) (l0_2 : List (S113)) (a1 : Int) (a2 : Int) (r : Int) (w : World) (hg0_ : w.heap[g0_]? = some (.cells #[.int .i64 a0_0, .int .i64 a0_1, .slice A0_2 l0_2.length c0_2] 35 (0, 0))) (hr0_2 : Kd.C k113 w A0_2 l0_2.length l0_2) (hc0_2 : l0_2.length ≤ c0_2) (h : impl_Doc_depth.f k a0_0 a0_1 l0_2 a1 a2 = some r),
  Calls Tryz.prog 163 #[.pointer (some ⟨g0_, 0, none⟩), .int .i64 a1, .int .i64 a2] w fun e w' => e = .returned (.int .i64 r) ∧ Below w.heap.size w w' := by
 induction k using Nat.strongRecOn with
 | _ k ih =>
 intro g0_ a0_0 a0_1 A0_2 c0_2 l0_2 a1 a2 r w hg0_ hr0_2 hc0_2 h
 cases k with
 | zero => exact absurd h (by simp [impl_Doc_depth.f])
 | succ k =>
 simp only [impl_Doc_depth.f] at h
 have HR0_2 := Am hr0_2
 have HC0_2 := Am hc0_2
 clear hr0_2 hc0_2
 have B0 := Am hg0_
 clear hg0_
 have HB := Am (Below.refl w.heap.size w)
 have H : (if a2 > 6 then (some 0) else ((impl_Doc_find.f k a0_0 a0_1 l0_2 a1).bind fun t17 => (if t17 < 0 then (none) else (if 0 ≤ t17 then (if t17 < (l0_2.length : Int) then (impl_Doc_depth.l0 k a2 0 ((rd_T113 l0_2 t17).f4) (((rd_T113 l0_2 t17).f4).length : Int) 0 a0_0 a0_1 l0_2) else (none)) else (none))))) = some r := h
 clear h
 obtain ⟨c4, H⟩ | ⟨c4, H⟩ := Xiu H
 ·have c4b0 : decide (6 < a2) = true := decide_eq_true c4
  clear c4
  obtain rfl := Xsi H
  go_enter Tryz.func163, Tryz.ntmps163
  go_wp2
  go_ret
  exact ⟨Xe, Xi⟩
 have c4b0 : decide (6 < a2) = false := decide_eq_false c4
 clear c4
 obtain ⟨t17, A5, H⟩ := Xbi H
 try dsimp only at H
 obtain ⟨c6b0, H⟩ | ⟨c6b0, H⟩ := Xit H
 ·exact absurd H (by simp)
 obtain ⟨c7, H⟩ | ⟨c7, H⟩ := Xiu H
 ·have c7b0 : decide (0 ≤ t17) = true := decide_eq_true c7
  clear c7
  obtain ⟨c8b0, H⟩ := Xid H
  have H' := Am H
  clear H
  go_enter Tryz.func163, Tryz.ntmps163
  go_wp2_with (first | ((with_reducible refine gate_callee (f := 162) rfl ?_); refine Xgo 14 Tryz.func162 #[.pointer (some ⟨g0_, 0, none⟩), .int .i64 a1] ?_; (with_reducible refine (impl_Doc_find.calls k g0_ a0_0 a0_1 A0_2 c0_2 l0_2 a1 t17 _ ?s1 ?s2 ?s3 A5.out).mono ?_); (case s1 => exact B0.out); (case s2 => exact Xcd HR0_2.out); (case s3 => exact HC0_2.out); rintro e w9 ⟨pF, rfl, hpn, hps, hb⟩; refine ⟨_, rfl, ?_⟩; obtain ⟨adf10, hae, rfl⟩ := hps (Int.not_lt.mp (of_decide_eq_false Xa)); clear hpn; cases hae; replace B0 := Xbb B0 hb; replace HB := Xhb hb; clear hb; have p18 : 0 ≤ (t17 : Int) := Xo; have q18 : t17 < (l0_2.length : Int) := Xo; obtain ⟨ad18, A462_4, c462_4, e18, hx18_0, hx18_1, hx18_2, hx18_3, hx18_4, hl462_4, hi462_4⟩ := at_T113 HR0_2.out t17 p18 q18; obtain rfl : adf10 = ad18 := (by injection e18); replace hx18_0 := Xm HB hx18_0; replace hx18_1 := Xm HB hx18_1; replace hx18_2 := Xm HB hx18_2; replace hx18_3 := Xm HB hx18_3; replace hx18_4 := Xm HB hx18_4; have HR18_4 := Am hi462_4; have HC18_4 := Am hl462_4; clear hi462_4 hl462_4; replace p18 := eq_true p18; replace q18 := eq_true q18))
  go_loopg [7, 19] k (fun kq v7 v19 w' => ∃ (x7_1 : Int) (x19_1 : Int), v7 = .int .i64 x7_1 ∧ v19 = .int .i64 x19_1 ∧ Aside0 (impl_Doc_depth.l0 kq a2 x7_1 ((rd_T113 l0_2 t17).f4) (((rd_T113 l0_2 t17).f4).length : Int) x19_1 a0_0 a0_1 l0_2 = some r) ∧ Aside0 (kq ≤ k) ∧ Aside0 (w'.heap[g0_]? = some (.cells #[.int .i64 a0_0, .int .i64 a0_1, (.slice (some adf10) l0_2.length c0_2)] 35 (0, 0))) ∧ Aside0 (Below w.heap.size w w'))
  case atStart => exact ⟨(0), (0), Xr, Xr, H', Xkr, B0, ⟨Xi⟩⟩
  clear H'
  (try clear c4); (try clear c4b0); (try clear c6); (try clear c6b0); (try clear c7); (try clear c7b0); (try clear c8); (try clear c8b0); (try clear hx18_0); (try clear hx18_1); (try clear hx18_2); (try clear hx18_3); (try clear hx18_4); (try clear p18); (try clear q18)
  obtain ⟨x7_1, x19_1, rfl, rfl, HA, HK1, B0, HB⟩ := hrel
  cases gk with | zero => cases HA.out | succ k1 => ?_
  have H := HA.out
  clear HA
  simp only [impl_Doc_depth.l0] at H
  obtain ⟨c11b0, H⟩ | ⟨c11b0, H⟩ := Xit H
  ·obtain ⟨c12b0, H⟩ := Xid H
   obtain ⟨c13b0, H⟩ := Xid H
   obtain ⟨t20, A14, H⟩ := Xbi H
   try dsimp only at H
   obtain ⟨ji15, hji15⟩ : ∃ j_ : Int, (mx x7_1 t20) = j_ := ⟨_, rfl⟩
   replace H : (impl_Doc_depth.l0 k1 a2 ji15 ((rd_T113 l0_2 t17).f4) (((rd_T113 l0_2 t17).f4).length : Int) (wrap64 (x19_1 + 1)) a0_0 a0_1 l0_2) = some r := by first | (rw [hji15] at H; exact H) | (simp only [hji15] at H ⊢; exact H)
   (try rw [hji15] at A14)
   have hji15_ : (if x7_1 < t20 then t20 else x7_1) = ji15 := hji15
   have H' := Am H
   clear H
   have p21 : 0 ≤ (x19_1 : Int) := Xo
   have q21 : x19_1 < (((rd_T113 l0_2 t17).f4).length : Int) := Xo
   obtain ⟨ad21, e21, hx21_0⟩ := Kd.at_int HR18_4.out x19_1 p21 q21
   cases e21
   replace hx21_0 := Xm HB hx21_0
   replace p21 := eq_true p21
   replace q21 := eq_true q21
   go_wp2_with (first | ((with_reducible refine gate_callee (f := 163) rfl ?_); refine Xgo 28 Tryz.func163 #[.pointer (some ⟨g0_, 0, none⟩), .int .i64 (rd ((rd_T113 l0_2 t17).f4) x19_1), .int .i64 (wrap64 (a2 + 1))] ?_; (with_reducible refine (ih k1 (by have := HK1.out; omega) g0_ a0_0 a0_1 (some adf10) c0_2 l0_2 (rd ((rd_T113 l0_2 t17).f4) x19_1) (wrap64 (a2 + 1)) t20 _ ?s1 ?s2 ?s3 A14.out).mono ?_); (case s1 => exact B0.out); (case s2 => exact Xc HR0_2); (case s3 => exact HC0_2.out); rintro e w16 ⟨rfl, hb⟩; refine ⟨_, rfl, ?_⟩; replace B0 := Xbb B0 hb; replace HB := Xhb hb; clear hb))
   go_roundg k1
   case measure => have := HK1.out; omega
   case rel => exact ⟨(ji15), (wrap64 (x19_1 + 1)), (by first | rfl | (simp; done) | (simp only [← hji15] <;> (first | rfl | simp)) | (simp [*]; done)), Xr, H', Xk1, B0, ⟨Xi⟩⟩
  obtain rfl := Xsi H
  go_wp2
  go_ret
  exact ⟨Xe, Xi⟩
 exact absurd H (by simp)
def impl_Doc_isDeep.f (k : Nat) (a0_0 : Int) (a0_1 : Int) (l0_2 : List (S113)) : Option (Bool) := (impl_Doc_depth.f k a0_0 a0_1 l0_2 a0_0 0).bind fun t10 => (some (decide (t10 > 6)))
theorem impl_Doc_isDeep.calls (k : Nat) (g0_ : Nat) (a0_0 : Int) (a0_1 : Int) (A0_2 : Option Addr) (c0_2 : Nat) (l0_2 : List (S113)) (r : Bool) (w : World) (hg0_ : w.heap[g0_]? = some (.cells #[.int .i64 a0_0, .int .i64 a0_1, .slice A0_2 l0_2.length c0_2] 35 (0, 0))) (hr0_2 : Kd.C k113 w A0_2 l0_2.length l0_2) (hc0_2 : l0_2.length ≤ c0_2) (h : impl_Doc_isDeep.f k a0_0 a0_1 l0_2 = some r) :
  Calls Tryz.prog 126 #[.pointer (some ⟨g0_, 0, none⟩)] w fun e w' => e = .returned (.bool r) ∧ Below w.heap.size w w' := by
 have HR0_2 := Am hr0_2
 have HC0_2 := Am hc0_2
 clear hr0_2 hc0_2
 have B0 := Am hg0_
 clear hg0_
 have HB := Am (Below.refl w.heap.size w)
 have H : ((impl_Doc_depth.f k a0_0 a0_1 l0_2 a0_0 0).bind fun t10 => (some (decide (t10 > 6)))) = some r := h
 clear h
 obtain ⟨t10, A2, H⟩ := Xbi H
 try dsimp only at H
 obtain rfl := Xsi H
 obtain ⟨Z3_0, Z3_1, Z3_2⟩ := Xc3 B0
 go_enter Tryz.func126, Tryz.ntmps126
 go_wp2_with (first | ((with_reducible refine gate_callee (f := 163) rfl ?_); refine Xgo 8 Tryz.func163 #[.pointer (some ⟨g0_, 0, none⟩), .int .i64 a0_0, .int .i64 0] ?_; (with_reducible refine (impl_Doc_depth.calls k g0_ a0_0 a0_1 A0_2 c0_2 l0_2 a0_0 0 t10 _ ?s1 ?s2 ?s3 A2.out).mono ?_); (case s1 => exact B0.out); (case s2 => exact Xcd HR0_2.out); (case s3 => exact HC0_2.out); rintro e w4 ⟨rfl, hb⟩; refine ⟨_, rfl, ?_⟩; replace B0 := Xbb B0 hb; replace HB := Xhb hb; clear hb))
 go_ret
 exact ⟨Xe, Xi⟩
mutual
def impl_Doc_order.l0 : Nat → List Int → List Int → Int → Int → Int → Int → List (S113) → Option (List Int)
 | 0, _, _, _, _, _, _, _ => none
 | k + 1, x1, x18, x19, x20, x1000, x1001, x1002 => if x20 < x19 then (if 0 ≤ x20 then (if x20 < (x18.length : Int) then ((impl_Doc_order.f k x1000 x1001 x1002 x1 (rd x18 x20)).bind fun t10 => (impl_Doc_order.l0 k t10 x18 x19 (wrap64 (x20 + 1)) x1000 x1001 x1002)) else (none)) else (none)) else (some x1)
def impl_Doc_order.f : Nat → Int → Int → List (S113) → List Int → Int → Option (List Int)
 | 0, _, _, _, _, _ => none
 | k + 1, a0_0, a0_1, l0_2, l1, a2 => if l1.length < 17592186044416 then ((impl_Doc_find.f k a0_0 a0_1 l0_2 a2).bind fun t10 => (if t10 < 0 then (none) else (if 0 ≤ t10 then (if t10 < (l0_2.length : Int) then (impl_Doc_order.l0 k (l1 ++ [a2]) ((rd_T113 l0_2 t10).f4) (((rd_T113 l0_2 t10).f4).length : Int) 0 a0_0 a0_1 l0_2) else (none)) else (none)))) else (none)
end
theorem impl_Doc_order.calls (k : Nat) : ∀ (g0_ : Nat) (a0_0 : Int) (a0_1 : Int) (A0_2 : Option Addr) (c0_2 : Nat) (l0_2 : List (S113)) (P1_ : Nat → Prop) (u9000_ : Value) (l1 : List Int) (a2 : Int) (r : List Int) (w0 w : World) (hB : Below w0.heap.size w0 w) (hg0_ : w.heap[g0_]? = some (.cells #[.int .i64 a0_0, .int .i64 a0_1, .slice A0_2 l0_2.length c0_2] 35 (0, 0))) (hr0_2 : ∀ W_, Kept w W_ (fun k_ => P1_ k_) → Kd.C k113 W_ A0_2 l0_2.length l0_2) (hc0_2 : l0_2.length ≤ c0_2) (ho1 : Kd.R (Kd.int .i64) 3 w w0.heap.size P1_ u9000_ l1) (h : impl_Doc_order.f k a0_0 a0_1 l0_2 l1 a2 = some r),
  Calls Tryz.prog 127 #[.pointer (some ⟨g0_, 0, none⟩), u9000_, .int .i64 a2] w fun e w' => ∃ v0_ : Value, e = .returned (v0_) ∧ Kd.R (Kd.int .i64) 3 w' w0.heap.size (fun k_ => (P1_ k_ ∨ w.heap.size ≤ k_)) v0_ r ∧ Below w0.heap.size w0 w' ∧ Kept w w' (fun k_ => P1_ k_) := by
 induction k using Nat.strongRecOn with
 | _ k ih =>
 intro g0_ a0_0 a0_1 A0_2 c0_2 l0_2 P1_ u9000_ l1 a2 r w0 w hB hg0_ hr0_2 hc0_2 ho1 h
 cases k with
 | zero => exact absurd h (by simp [impl_Doc_order.f])
 | succ k =>
 simp only [impl_Doc_order.f] at h
 have HR0_2 := Am hr0_2
 have HC0_2 := Am hc0_2
 clear hr0_2 hc0_2
 have HO1 := Am (show Kd.R (Kd.int .i64) 3 w w0.heap.size (fun k_ => (P1_ k_ ∨ w.heap.size ≤ k_)) u9000_ l1 from Kd.R_mono ho1 (fun k_ hk => (.inl hk)))
 have B0 := Am hg0_
 clear hg0_
 have HK := Am (Kept.refl w (fun k_ => P1_ k_))
 have HW0 := Am hB.size
 have HB := Am hB
 clear hB
 have H : (if l1.length < 17592186044416 then ((impl_Doc_find.f k a0_0 a0_1 l0_2 a2).bind fun t18 => (if t18 < 0 then (none) else (if 0 ≤ t18 then (if t18 < (l0_2.length : Int) then (impl_Doc_order.l0 k (l1 ++ [a2]) ((rd_T113 l0_2 t18).f4) (((rd_T113 l0_2 t18).f4).length : Int) 0 a0_0 a0_1 l0_2) else (none)) else (none)))) else (none)) = some r := h
 clear h
 obtain ⟨c4, H⟩ | ⟨c4, H⟩ := Xiu H
 ·have LMc4 := Am c4
  clear c4
  obtain ⟨y19, hy19⟩ : ∃ y_ : List Int, y_ = (l1 ++ [a2]) := ⟨_, rfl⟩
  replace H : ((impl_Doc_find.f k a0_0 a0_1 l0_2 a2).bind fun t18 => (if t18 < 0 then (none) else (if 0 ≤ t18 then (if t18 < (l0_2.length : Int) then (impl_Doc_order.l0 k y19 ((rd_T113 l0_2 t18).f4) (((rd_T113 l0_2 t18).f4).length : Int) 0 a0_0 a0_1 l0_2) else (none)) else (none)))) = some r := by first | (rw [hy19]; with_reducible exact H) | (have H2_ := (Option.bind_some _ _).symm.trans H; rw [hy19]; with_reducible exact H2_) | (have H2_ := (Option.bind_some _ _).symm.trans H; with_reducible exact H2_) | with_reducible exact H | (rw [hy19]; exact H) | exact H
  have Ny19 := Am hy19
  clear hy19
  obtain ⟨t18, A5, H⟩ := Xbi H
  try dsimp only at H
  obtain ⟨c6b0, H⟩ | ⟨c6b0, H⟩ := Xit H
  ·exact absurd H (by simp)
  obtain ⟨c7b0, H⟩ := Xid H
  obtain ⟨c8b0, H⟩ := Xid H
  have H' := Am H
  clear H
  go_enter Tryz.func127, Tryz.ntmps127
  go_wp2_with (first | ((with_reducible refine gate_builtin (b := .append) (xs := #[.tmp 9, .tmp 11]) rfl ?_); at_builtin; refine Kd.R_append (Kd.int .i64) (w0 := w0) w0.heap.size rfl (.tmp 9) (.tmp 11) 30 3 (.int .i64 0) 8 rfl Tryz.underlying30 info3 rfl (by decide) (by omega) u9000_ l1 a2 [.int .i64 a2] (fun k_ => (P1_ k_ ∨ w.heap.size ≤ k_)) (fun _ => False) rfl rfl ?aP (fun _ hk => hk.elim) ?aF ?aO ?aB ?aS ?aL ?_; (case aP => exact rfl); (case aB => exact Xi); (case aF => exact (fun k_ hk => (.inr (Nat.le_trans (by first | exact HK.out.1 | exact (show Kept w _ (fun k_ => P1_ k_) from by repeat first | (with_reducible first | exact HK.out | apply Kept.alloc | apply Kept.drewN | apply Kept.drew | refine Kept.setCell ?_ (.inr GW0.out) _) | exact HK.out).1) hk)))); (case aO => exact (Xq HO1)); (case aS => exact (below_size Xi)); (case aL => have := LMc4.out; omega); intro v467 w9 ho hb hg hat; rw [← Ny19.out] at ho; replace B0 := Am (blk_grown (g := g0_) (o := .cells #[.int .i64 a0_0, .int .i64 a0_1, .slice A0_2 l0_2.length c0_2] 35 (0, 0)) (Xq' B0) hg (Kd.R_ne HO1.out B0.out (by decide))); replace HB := Am (hb); replace HK := Am (Kept.of_grown (S := (fun k_ => P1_ k_)) hg (by repeat first | (with_reducible first | exact HK.out | apply Kept.alloc | apply Kept.drewN | apply Kept.drew | refine Kept.setCell ?_ (.inr GW0.out) _) | exact HK.out) (fun k_ e_ => (HO1.out.1 k_ e_))); have HO21 := Am (ho); clear HO1; clear ho hb hg hat) | ((with_reducible refine gate_callee (f := 162) rfl ?_); refine Xgo 15 Tryz.func162 #[.pointer (some ⟨g0_, 0, none⟩), .int .i64 a2] ?_; (with_reducible refine (impl_Doc_find.calls k g0_ a0_0 a0_1 A0_2 c0_2 l0_2 a2 t18 _ ?s1 ?s2 ?s3 A5.out).mono ?_); (case s1 => exact (Xq' B0)); (case s2 => exact Kd.C_kept_now HR0_2.out (by repeat first | (with_reducible first | exact HK.out | apply Kept.alloc | apply Kept.drewN | apply Kept.drew | refine Kept.setCell ?_ (.inr GW0.out) _) | exact HK.out)); (case s3 => exact HC0_2.out); rintro e w10 ⟨pF, rfl, hpn, hps, hb⟩; refine ⟨_, rfl, ?_⟩; obtain ⟨adf11, hae, rfl⟩ := hps (Int.not_lt.mp (of_decide_eq_false Xa)); clear hpn; cases hae; replace HO21 := Am (Kd.R_below (Xq HO21) hb); replace B0 := Xbb B0 hb; replace HK := Am (Kept.below (S := (fun k_ => P1_ k_)) (by repeat first | (with_reducible first | exact HK.out | apply Kept.alloc | apply Kept.drewN | apply Kept.drew | refine Kept.setCell ?_ (.inr GW0.out) _) | exact HK.out) hb); replace HB := Xhb hb; clear hb; have p22 : 0 ≤ (t18 : Int) := Xo; have q22 : t18 < (l0_2.length : Int) := Xo; obtain ⟨ad22, A470_4, c470_4, e22, hx22_0, hx22_1, hx22_2, hx22_3, hx22_4, hl470_4, hi470_4⟩ := at_T113 (Kd.C_kept_now HR0_2.out HK.out) t18 p22 q22; obtain rfl : adf11 = ad22 := (by injection e22); obtain ⟨af_, Af_, cf_, ef_, ff_, lf_, gf_⟩ := footT113_4 HR0_2.out t18 p22 q22; obtain rfl : adf11 = af_ := (by first | (injection ef_) | (injection ef_.symm)); have ff1_ := (ff_ _ HK.out).symm.trans hx22_4; injection (Option.some.inj ff1_) with ha_ hn_ hc_; rw [ha_] at gf_; clear hi470_4 ff1_ ff_ lf_ ha_ hn_ hc_; have hi470_4 := gf_; clear gf_ ef_; have HR22_4 := Am hi470_4; have HC22_4 := Am hl470_4; clear hi470_4 hl470_4; replace p22 := eq_true p22; replace q22 := eq_true q22))
  go_loopg [1, 20] k (fun kq v1 v20 w' => ∃ (x1_1 : List Int) (x20_1 : Int), v20 = .int .i64 x20_1 ∧ Aside0 (impl_Doc_order.l0 kq x1_1 ((rd_T113 l0_2 t18).f4) (((rd_T113 l0_2 t18).f4).length : Int) x20_1 a0_0 a0_1 l0_2 = some r) ∧ Aside0 (kq ≤ k) ∧ Aside0 (Kd.R (Kd.int .i64) 3 w' w0.heap.size (fun k_ => (P1_ k_ ∨ w.heap.size ≤ k_)) v1 x1_1) ∧ Aside0 (w'.heap[g0_]? = some (.cells #[.int .i64 a0_0, .int .i64 a0_1, (.slice (some adf11) l0_2.length c0_2)] 35 (0, 0))) ∧ Aside0 (Kept w w' (fun k_ => P1_ k_)) ∧ Aside0 (Below w0.heap.size w0 w'))
  case atStart => exact ⟨(y19), (0), Xr, H', Xkr, (Xp' HO21), (Xp B0), ⟨by repeat first | (with_reducible first | exact HK.out | apply Kept.alloc | apply Kept.drewN | apply Kept.drew | refine Kept.setCell ?_ (.inr GW0.out) _) | exact HK.out⟩, ⟨Xi⟩⟩
  clear H'
  (try clear c4); (try clear c6); (try clear c6b0); (try clear c7); (try clear c7b0); (try clear c8); (try clear c8b0); (try clear hx22_0); (try clear hx22_1); (try clear hx22_2); (try clear hx22_3); (try clear hx22_4); (try clear p22); (try clear q22)
  obtain ⟨x1_1, x20_1, rfl, HA, HK1, O_1, B0, HK, HB⟩ := hrel
  cases gk with | zero => cases HA.out | succ k1 => ?_
  have H := HA.out
  clear HA
  simp only [impl_Doc_order.l0] at H
  obtain ⟨c12b0, H⟩ | ⟨c12b0, H⟩ := Xit H
  ·obtain ⟨c13b0, H⟩ := Xid H
   obtain ⟨c14b0, H⟩ := Xid H
   obtain ⟨t23, A15, H⟩ := Xbi H
   try dsimp only at H
   have H' := Am H
   clear H
   have p24 : 0 ≤ (x20_1 : Int) := Xo
   have q24 : x20_1 < (((rd_T113 l0_2 t18).f4).length : Int) := Xo
   obtain ⟨ad24, e24, hx24_0⟩ := Kd.at_int (Kd.C_kept_now HR22_4.out HK.out) x20_1 p24 q24
   cases e24
   replace p24 := eq_true p24
   replace q24 := eq_true q24
   obtain ⟨Ao16, co16, eo16⟩ := Kd.R_slice O_1.out
   subst eo16
   go_wp2_with (first | ((with_reducible refine gate_callee (f := 127) rfl ?_); refine Xgo 27 Tryz.func127 #[.pointer (some ⟨g0_, 0, none⟩), .slice Ao16 x1_1.length co16, .int .i64 (rd ((rd_T113 l0_2 t18).f4) x20_1)] ?_; (with_reducible refine (ih k1 (by have := HK1.out; omega) g0_ a0_0 a0_1 (some adf11) c0_2 l0_2 (fun k_ => some k_ = (.slice Ao16 x1_1.length co16 : Value).ownBlock) (.slice Ao16 x1_1.length co16) x1_1 (rd ((rd_T113 l0_2 t18).f4) x20_1) t23 w0 _ ?s1 ?s2 ?s3 ?s4 ?s5 A15.out).mono ?_); (case s1 => exact Xi); (case s2 => exact (Xq' B0)); (case s3 => exact Kd.C_kept_call HR0_2.out (by repeat first | (with_reducible first | exact HK.out | apply Kept.alloc | apply Kept.drewN | apply Kept.drew | refine Kept.setCell ?_ (.inr GW0.out) _) | exact HK.out) (fun k_ hs_ => (fun e_ => (O_1.out.1 k_ e_.symm)) hs_)); (case s4 => exact HC0_2.out); (case s5 => exact Kd.R_tight rfl O_1.out); rintro e w17 ⟨v473, rfl, ho0, hb, hkp⟩; refine ⟨_, rfl, ?_⟩; replace B0 := Am (blk_kept (Xq' B0) hkp (fun hs_ => (fun e_ => (Kd.R_ne O_1.out B0.out (by decide)) e_) hs_)); have HO25 := Am (Kd.R_mono (ok' := fun k_ => (P1_ k_ ∨ w.heap.size ≤ k_)) ho0 (fun k_ hk_ => Or.elim hk_ (fun hs_ => (O_1.out.1 k_ (hs_).symm)) (fun hn_ => (.inr (Nat.le_trans (by first | exact HK.out.1 | exact (show Kept w _ (fun k_ => P1_ k_) from by repeat first | (with_reducible first | exact HK.out | apply Kept.alloc | apply Kept.drewN | apply Kept.drew | refine Kept.setCell ?_ (.inr GW0.out) _) | exact HK.out).1) hn_))))); replace HK := Am (Kept.then_ (S := (fun k_ => P1_ k_)) (by repeat first | (with_reducible first | exact HK.out | apply Kept.alloc | apply Kept.drewN | apply Kept.drew | refine Kept.setCell ?_ (.inr GW0.out) _) | exact HK.out) hkp (fun k_ hs_ => (fun e_ => (O_1.out.1 k_ e_.symm)) hs_)); replace HB := Am (hb); clear O_1; (try clear hb); (try clear hkp); (try clear ho0)))
   go_roundg k1
   case measure => have := HK1.out; omega
   case rel => exact ⟨(t23), (wrap64 (x20_1 + 1)), Xr, H', Xk1, (Xp' HO25), (Xp B0), ⟨by repeat first | (with_reducible first | exact HK.out | apply Kept.alloc | apply Kept.drewN | apply Kept.drew | refine Kept.setCell ?_ (.inr GW0.out) _) | exact HK.out⟩, ⟨Xi⟩⟩
  obtain rfl := Xsi H
  go_wp2
  go_ret
  exact ⟨_, Xe, Xq O_1, Xi, by repeat first | (with_reducible first | exact HK.out | apply Kept.alloc | apply Kept.drewN | apply Kept.drew | refine Kept.setCell ?_ (.inr GW0.out) _) | exact HK.out⟩
 exact absurd H (by simp)
def impl_isMode.f (a0 : Int) (a1 : Int) : Option (Bool) := (impl_within.f a0 a1 5).bind fun t10 => (some t10)
theorem impl_isMode.calls (a0 : Int) (a1 : Int) (r : Bool) (w : World) (h : impl_isMode.f a0 a1 = some r) :
  Calls Tryz.prog 73 #[.int .i64 a0, .int .i64 a1] w fun e w' => e = .returned (.bool r) ∧ Drawn0 w w' := by
 have H : ((impl_within.f a0 a1 5).bind fun t10 => (some t10)) = some r := h
 clear h
 obtain ⟨t10, A3, H⟩ := Xbi H
 try dsimp only at H
 obtain rfl := Xsi H
 go_enter Tryz.func73, Tryz.ntmps73
 go_wp2_with (first | ((with_reducible refine gate_callee (f := 124) rfl ?_); refine Xgo 7 Tryz.func124 #[.int .i64 a0, .int .i64 a1, .int .i64 5] ?_; (with_reducible refine (impl_within.calls a0 a1 5 t10 _ A3.out).mono ?_); rintro e w' ⟨rfl, ⟨nd, rfl⟩⟩; refine ⟨_, rfl, ?_⟩))
 go_ret
 exact ⟨Xr, Xdr⟩
def impl_isSession.f (a0 : Int) : Option (Bool) := (impl_within.f a0 1 999).bind fun t10 => (some t10)
theorem impl_isSession.calls (a0 : Int) (r : Bool) (w : World) (h : impl_isSession.f a0 = some r) :
  Calls Tryz.prog 107 #[.int .i64 a0] w fun e w' => e = .returned (.bool r) ∧ Drawn0 w w' := by
 have H : ((impl_within.f a0 1 999).bind fun t10 => (some t10)) = some r := h
 clear h
 obtain ⟨t10, A2, H⟩ := Xbi H
 try dsimp only at H
 obtain rfl := Xsi H
 go_enter Tryz.func107, Tryz.ntmps107
 go_wp2_with (first | ((with_reducible refine gate_callee (f := 124) rfl ?_); refine Xgo 4 Tryz.func124 #[.int .i64 a0, .int .i64 1, .int .i64 999] ?_; (with_reducible refine (impl_within.calls a0 1 999 t10 _ A2.out).mono ?_); rintro e w' ⟨rfl, ⟨nd, rfl⟩⟩; refine ⟨_, rfl, ?_⟩))
 go_ret
 exact ⟨Xr, Xdr⟩
def impl_Doc_isHold.f (k : Nat) (a0_0 : Int) (a0_1 : Int) (l0_2 : List (S113)) (a1_0 : Int) (a1_1 : Int) (a1_2 : Int) : Option (Bool) := (impl_isSession.f a1_0).bind fun t10 => (if t10 = true then ((impl_Doc_has.f k a0_0 a0_1 l0_2 a1_1).bind fun t11 => (if t11 = true then ((impl_isMode.f a1_2 1).bind fun t12 => (some t12)) else (some false))) else (some false))
theorem impl_Doc_isHold.calls (k : Nat) (g0_ : Nat) (a0_0 : Int) (a0_1 : Int) (A0_2 : Option Addr) (c0_2 : Nat) (l0_2 : List (S113)) (a1_0 : Int) (a1_1 : Int) (a1_2 : Int) (r : Bool) (w : World) (hg0_ : w.heap[g0_]? = some (.cells #[.int .i64 a0_0, .int .i64 a0_1, .slice A0_2 l0_2.length c0_2] 35 (0, 0))) (hr0_2 : Kd.C k113 w A0_2 l0_2.length l0_2) (hc0_2 : l0_2.length ≤ c0_2) (h : impl_Doc_isHold.f k a0_0 a0_1 l0_2 a1_0 a1_1 a1_2 = some r) :
  Calls Tryz.prog 69 #[.pointer (some ⟨g0_, 0, none⟩), .agg #[.int .i64 a1_0, .int .i64 a1_1, .int .i64 a1_2]] w fun e w' => e = .returned (.bool r) ∧ Below w.heap.size w w' := by
 have hu39 := Tryz.underlying39
 have HR0_2 := Am hr0_2
 have HC0_2 := Am hc0_2
 clear hr0_2 hc0_2
 have B0 := Am hg0_
 clear hg0_
 have HB := Am (Below.refl w.heap.size w)
 have H : ((impl_isSession.f a1_0).bind fun t19 => (if t19 = true then ((impl_Doc_has.f k a0_0 a0_1 l0_2 a1_1).bind fun t20 => (if t20 = true then ((impl_isMode.f a1_2 1).bind fun t21 => (some t21)) else (some false))) else (some false))) = some r := h
 clear h
 have HC3 := Am H
 clear H
 go_enter Tryz.func69, Tryz.ntmps69
 go_upto_region 1 with ((with_reducible refine gate_dst (N := 3) rfl ?_); refine Xbx 3 #[.int .i64 a1_0, .int .i64 a1_1, .int .i64 a1_2] 39 ?_; intro gb22 hg w4 B22 GE22 hb; replace HB := Xhb hb; have NB0_22 := Xnb hg B0; have NB22_0 := Xns NB0_22; replace B0 := Xbb B0 hb; clear hb hg)
 have H := HC3.out
 clear HC3
 obtain ⟨t19, A5, H⟩ := Xbi H
 try dsimp only at H
 by_cases c6 : t19 = true
 ·subst c6
  try rw [if_pos rfl] at H
  obtain ⟨t20, A7, H⟩ := Xbi H
  try dsimp only at H
  by_cases c8 : t20 = true
  ·subst c8
   try rw [if_pos rfl] at H
   obtain ⟨t21, A9, H⟩ := Xbi H
   try dsimp only at H
   obtain rfl := Xsi H
   have hnb10 := NB22_0.out
   have hnc10 := NB0_22.out
   obtain ⟨Z11_0, Z11_1, Z11_2⟩ := Xc3 B22
   go_wp2_with (first | ((with_reducible refine gate_callee (f := 107) rfl ?_); refine Xgo 7 Tryz.func107 #[.int .i64 a1_0] ?_; (with_reducible refine (impl_isSession.calls a1_0 true _ A5.out).mono ?_); rintro e w' ⟨rfl, ⟨nd, rfl⟩⟩; refine ⟨_, rfl, ?_⟩) | (go_at_call 125; (with_reducible refine (impl_Doc_has.calls k g0_ a0_0 a0_1 A0_2 c0_2 l0_2 a1_1 true _ ?s1 ?s2 ?s3 A7.out).mono ?_); (case s1 => exact B0.out); (case s2 => exact Xc HR0_2); (case s3 => exact HC0_2.out); rintro e w12 ⟨rfl, hb⟩; replace B0 := Xbb B0 hb; replace B22 := Xbb B22 hb; replace HB := Xhb hb; clear hb; obtain ⟨Z13_0, Z13_1, Z13_2⟩ := Xc3 B22) | (go_at_call 73; (with_reducible refine (impl_isMode.calls a1_2 1 t21 _ A9.out).mono ?_); rintro e w' ⟨rfl, ⟨nd, rfl⟩⟩))
   go_ret
   exact ⟨Xe, Xi⟩
  replace c8 := Xbf c8
  subst c8
  try rw [if_neg Xft] at H
  obtain rfl := Xsi H
  have hnb14 := NB22_0.out
  have hnc14 := NB0_22.out
  obtain ⟨Z15_0, Z15_1, Z15_2⟩ := Xc3 B22
  go_wp2_with (first | ((with_reducible refine gate_callee (f := 107) rfl ?_); refine Xgo 7 Tryz.func107 #[.int .i64 a1_0] ?_; (with_reducible refine (impl_isSession.calls a1_0 true _ A5.out).mono ?_); rintro e w' ⟨rfl, ⟨nd, rfl⟩⟩; refine ⟨_, rfl, ?_⟩) | (go_at_call 125; (with_reducible refine (impl_Doc_has.calls k g0_ a0_0 a0_1 A0_2 c0_2 l0_2 a1_1 false _ ?s1 ?s2 ?s3 A7.out).mono ?_); (case s1 => exact B0.out); (case s2 => exact Xc HR0_2); (case s3 => exact HC0_2.out); rintro e w16 ⟨rfl, hb⟩; replace B0 := Xbb B0 hb; replace B22 := Xbb B22 hb; replace HB := Xhb hb; clear hb))
  go_ret
  exact ⟨Xe, Xi⟩
 replace c6 := Xbf c6
 subst c6
 try rw [if_neg Xft] at H
 obtain rfl := Xsi H
 have hnb17 := NB22_0.out
 have hnc17 := NB0_22.out
 obtain ⟨Z18_0, Z18_1, Z18_2⟩ := Xc3 B22
 go_wp2_with (first | ((with_reducible refine gate_callee (f := 107) rfl ?_); refine Xgo 7 Tryz.func107 #[.int .i64 a1_0] ?_; (with_reducible refine (impl_isSession.calls a1_0 false _ A5.out).mono ?_); rintro e w' ⟨rfl, ⟨nd, rfl⟩⟩; refine ⟨_, rfl, ?_⟩))
 go_ret
 exact ⟨Xe, Xi⟩
def cmp_Or_int.l0 : Nat → Int → List Int → Int → Int → Option (Int)
 | 0, _, _, _, _ => none
 | k + 1, x3, x6, x7, x8 => if x8 < x7 then (if 0 ≤ x8 then (if x8 < (x6.length : Int) then (if (rd x6 x8) = x3 then (cmp_Or_int.l0 k x3 x6 x7 (wrap64 (x8 + 1))) else (some (rd x6 x8))) else (none)) else (none)) else (some x3)
def cmp_Or_int.f (k : Nat) (l0 : List Int) : Option (Int) := cmp_Or_int.l0 k 0 l0 (l0.length : Int) 0
theorem cmp_Or_int.calls (k : Nat) (A0 : Option Addr) (c0 : Nat) (l0 : List Int) (r : Int) (w : World) (hr0 : Kd.C (Kd.int .i64) w A0 l0.length l0) (hc0 : l0.length ≤ c0) (h : cmp_Or_int.f k l0 = some r) :
  Calls Tryz.prog 128 #[.slice A0 l0.length c0] w fun e w' => e = .returned (.int .i64 r) ∧ Drawn0 w w' := by
 have HR0 := Am hr0
 have HC0 := Am hc0
 clear hr0 hc0
 have H : (cmp_Or_int.l0 k 0 l0 (l0.length : Int) 0) = some r := h
 clear h
 have H' := Am H
 clear H
 go_enter Tryz.func128, Tryz.ntmps128
 go_wp2
 go_loopg [8] k (fun kq v8 w' => ∃ (x8_1 : Int), v8 = .int .i64 x8_1 ∧ Aside0 (cmp_Or_int.l0 kq 0 l0 (l0.length : Int) x8_1 = some r) ∧ Aside0 (kq ≤ k) ∧ Drawn0 w w')
 case atStart => exact ⟨(0), Xr, H', Xkr, by repeat (first | exact Drawn0.refl _ | apply Drawn0.step)⟩
 clear H'
 obtain ⟨x8_1, rfl, HA, HK1, ⟨m1, rfl⟩⟩ := hrel
 cases gk with | zero => cases HA.out | succ k1 => ?_
 have H := HA.out
 clear HA
 simp only [cmp_Or_int.l0] at H
 obtain ⟨c2b0, H⟩ | ⟨c2b0, H⟩ := Xit H
 ·obtain ⟨c3b0, H⟩ := Xid H
  obtain ⟨c4b0, H⟩ := Xid H
  obtain ⟨c5, H⟩ | ⟨c5, H⟩ := Xiu H
  ·have c5b0 : ((rd l0 x8_1) == 0) = true := beq_iff_eq.mpr c5
   have c5b1 : ((rd l0 x8_1) != 0) = false := bne_eq_false_iff_eq.mpr c5
   clear c5
   have H' := Am H
   clear H
   have p10 : 0 ≤ (x8_1 : Int) := Xo
   have q10 : x8_1 < (l0.length : Int) := Xo
   obtain ⟨ad10, e10, hx10_0⟩ := Kd.at_int HR0.out x8_1 p10 q10
   cases e10
   replace p10 := eq_true p10
   replace q10 := eq_true q10
   go_wp2
   go_roundg k1
   case measure => have := HK1.out; omega
   case rel => exact ⟨(wrap64 (x8_1 + 1)), Xr, H', Xk1, by repeat (first | exact Drawn0.refl _ | apply Drawn0.step)⟩
  have c5b0 : ((rd l0 x8_1) == 0) = false := beq_eq_false_iff_ne.mpr c5
  have c5b1 : ((rd l0 x8_1) != 0) = true := bne_iff_ne.mpr c5
  obtain rfl := Xsi H
  have p10 : 0 ≤ (x8_1 : Int) := Xo
  have q10 : x8_1 < (l0.length : Int) := Xo
  obtain ⟨ad10, e10, hx10_0⟩ := Kd.at_int HR0.out x8_1 p10 q10
  cases e10
  replace p10 := eq_true p10
  replace q10 := eq_true q10
  go_wp2
  go_ret
  exact ⟨Xr, Xdr⟩
 obtain rfl := Xsi H
 go_wp2
 go_ret
 exact ⟨Xr, Xdr⟩
def cmp_isNaN_int.f (a0 : Int) : Option (Bool) := some (a0 != a0)
theorem cmp_isNaN_int.calls (a0 : Int) (r : Bool) (w : World) (h : cmp_isNaN_int.f a0 = some r) :
  Calls Tryz.prog 164 #[.int .i64 a0] w fun e w' => e = .returned (.bool r) ∧ Drawn0 w w' := by
 have H : (some (a0 != a0)) = some r := h
 clear h
 obtain rfl := Xsi H
 go_enter Tryz.func164, Tryz.ntmps164
 go_wp2
 go_ret
 exact ⟨Xr, Xdr⟩
def cmp_Compare_int.f (a0 : Int) (a1 : Int) : Option (Int) := (cmp_isNaN_int.f a0).bind fun t10 => ((cmp_isNaN_int.f a1).bind fun t11 => (if t10 = true then (if t11 = true then (some 0) else (some (-1))) else (if t11 = true then (some 1) else (if a0 < a1 then (some (-1)) else (if a0 > a1 then (some 1) else (some 0))))))
theorem cmp_Compare_int.calls (a0 : Int) (a1 : Int) (r : Int) (w : World) (h : cmp_Compare_int.f a0 a1 = some r) :
  Calls Tryz.prog 129 #[.int .i64 a0, .int .i64 a1] w fun e w' => e = .returned (.int .i64 r) ∧ Drawn0 w w' := by
 have H : ((cmp_isNaN_int.f a0).bind fun t11 => ((cmp_isNaN_int.f a1).bind fun t12 => (if t11 = true then (if t12 = true then (some 0) else (some (-1))) else (if t12 = true then (some 1) else (if a0 < a1 then (some (-1)) else (if a0 > a1 then (some 1) else (some 0))))))) = some r := h
 clear h
 obtain ⟨t11, A3, H⟩ := Xbi H
 try dsimp only at H
 obtain ⟨t12, A4, H⟩ := Xbi H
 try dsimp only at H
 have HC5 := Am H
 clear H
 go_enter Tryz.func129, Tryz.ntmps129
 go_upto_if 11 with (first | ((with_reducible refine gate_callee (f := 164) rfl ?_); refine Xgo 8 Tryz.func164 #[.int .i64 a0] ?_; (with_reducible refine (cmp_isNaN_int.calls a0 t11 _ A3.out).mono ?_); rintro e w' ⟨rfl, ⟨nd, rfl⟩⟩; refine ⟨_, rfl, ?_⟩) | ((with_reducible refine gate_callee (f := 164) rfl ?_); refine Xgo 10 Tryz.func164 #[.int .i64 a1] ?_; (with_reducible refine (cmp_isNaN_int.calls a1 t12 _ A4.out).mono ?_); rintro e w' ⟨rfl, ⟨nd, rfl⟩⟩; refine ⟨_, rfl, ?_⟩))
 have H := HC5.out
 clear HC5
 by_cases c6 : t11 = true
 ·subst c6
  try rw [if_pos rfl] at H
  by_cases c7 : t12 = true
  ·subst c7
   try rw [if_pos rfl] at H
   obtain rfl := Xsi H
   go_wp2
   go_ret
   exact ⟨Xr, Xdr⟩
  replace c7 := Xbf c7
  subst c7
  try rw [if_neg Xft] at H
  obtain rfl := Xsi H
  go_wp2
  go_ret
  exact ⟨Xr, Xdr⟩
 replace c6 := Xbf c6
 subst c6
 try rw [if_neg Xft] at H
 by_cases c8 : t12 = true
 ·subst c8
  try rw [if_pos rfl] at H
  obtain rfl := Xsi H
  go_wp2
  go_ret
  exact ⟨Xr, Xdr⟩
 replace c8 := Xbf c8
 subst c8
 try rw [if_neg Xft] at H
 obtain ⟨c9b0, H⟩ | ⟨c9b0, H⟩ := Xit H
 ·(first | rw [c9b0] | (simp only [i64_w, i32_w]; rw [c9b0]) | skip)
  obtain rfl := Xsi H
  go_wp2
  go_ret
  exact ⟨Xr, Xdr⟩
 (first | rw [c9b0] | (simp only [i64_w, i32_w]; rw [c9b0]) | skip)
 obtain ⟨c10, H⟩ | ⟨c10, H⟩ := Xiu H
 ·have c10b0 : decide (a1 < a0) = true := decide_eq_true c10
  clear c10
  obtain rfl := Xsi H
  go_wp2
  go_ret
  exact ⟨Xr, Xdr⟩
 have c10b0 : decide (a1 < a0) = false := decide_eq_false c10
 clear c10
 obtain rfl := Xsi H
 go_wp2
 go_ret
 exact ⟨Xr, Xdr⟩
def impl_compareHolds.f (k : Nat) (a0_0 : Int) (a0_1 : Int) (a0_2 : Int) (a1_0 : Int) (a1_1 : Int) (a1_2 : Int) : Option (Int) := (cmp_Compare_int.f a0_0 a1_0).bind fun t10 => ((cmp_Compare_int.f a0_1 a1_1).bind fun t11 => ((cmp_Or_int.f k (([t10, t11] : List Int))).bind fun t12 => (some t12)))
def impl_compareHolds.T1 : Bool × List (List Nat × List Nat) := (true, [([], []), ([0], [0]), ([], []), ([2], [2]), ([1, 3], [1, 3]), ([], []), ([5], [5]), ([], []), ([7], [7]), ([6, 8, 4], [6, 8]), ([4, 9], [4, 9]), ([10, 9], [10]), ([11, 11, 0, 1, 2, 3, 4, 5, 6, 7, 8, 9, 10, 11], [11])])
def impl_compareHolds.B1 : List Nat := [0, 1, 0, 4, 15, 0, 32, 0, 128, 511, 1023, 2047, 4095]
theorem impl_compareHolds.tab1 : rtab .any (opsOf Tryz.f70 1) = impl_compareHolds.T1 := by kernel_rfl
theorem impl_compareHolds.bits1 : waitsOk impl_compareHolds.T1.2 impl_compareHolds.B1 = true := by kernel_rfl
theorem impl_compareHolds.calls (k : Nat) (a0_0 : Int) (a0_1 : Int) (a0_2 : Int) (a1_0 : Int) (a1_1 : Int) (a1_2 : Int) (r : Int) (w : World) (h : impl_compareHolds.f k a0_0 a0_1 a0_2 a1_0 a1_1 a1_2 = some r) :
  Calls Tryz.prog 70 #[.agg #[.int .i64 a0_0, .int .i64 a0_1, .int .i64 a0_2], .agg #[.int .i64 a1_0, .int .i64 a1_1, .int .i64 a1_2]] w fun e w' => e = .returned (.int .i64 r) ∧ Below w.heap.size w w' := by
 have hu39 := Tryz.underlying39
 have HB := Am (Below.refl w.heap.size w)
 have H : ((cmp_Compare_int.f a0_0 a1_0).bind fun t12 => ((cmp_Compare_int.f a0_1 a1_1).bind fun t13 => ((cmp_Or_int.f k (([t12, t13] : List Int))).bind fun t14 => (some t14)))) = some r := h
 clear h
 obtain ⟨t12, A3, H⟩ := Xbi H
 try dsimp only at H
 obtain ⟨t13, A4, H⟩ := Xbi H
 try dsimp only at H
 obtain ⟨y15, hy15⟩ : ∃ y_ : List Int, y_ = (([t12, t13] : List Int)) := ⟨_, rfl⟩
 replace H : ((cmp_Or_int.f k y15).bind fun t14 => (some t14)) = some r := by first | (rw [hy15]; with_reducible exact H) | (have H2_ := (Option.bind_some _ _).symm.trans H; rw [hy15]; with_reducible exact H2_) | (have H2_ := (Option.bind_some _ _).symm.trans H; with_reducible exact H2_) | with_reducible exact H | (rw [hy15]; exact H) | exact H
 have Ny15 := Am hy15
 clear hy15
 obtain ⟨t14, A5, H⟩ := Xbi H
 try dsimp only at H
 obtain rfl := Xsi H
 go_enter Tryz.func70, Tryz.ntmps70
 try go_wp2_with (first | ((with_reducible refine gate_dst (N := 2) rfl ?_); refine Xbx 2 #[.int .i64 a0_0, .int .i64 a0_1, .int .i64 a0_2] 39 ?_; intro gb16 hg w6 B16 GE16 hb; replace HB := Xhb hb; clear hb hg) | ((with_reducible refine gate_dst (N := 3) rfl ?_); refine Xbx 3 #[.int .i64 a1_0, .int .i64 a1_1, .int .i64 a1_2] 39 ?_; intro gb17 hg w7 B17 GE17 hb; replace HB := Xhb hb; have NB16_17 := Xnb hg B16; have NB17_16 := Xns NB16_17; replace B16 := Xbb B16 hb; clear hb hg))
 replace B16 := Xbd B16
 replace B17 := Xbd B17
 replace HB := Xhd HB
 refine Sx 13 (fun w' => w'.cell? ⟨gb16, 0, none⟩ = some (.int .i64 a0_0) ∧ w'.cell? ⟨gb16, 1, none⟩ = some (.int .i64 a0_1) ∧ w'.cell? ⟨gb16, 2, none⟩ = some (.int .i64 a0_2) ∧ w'.cell? ⟨gb17, 0, none⟩ = some (.int .i64 a1_0) ∧ w'.cell? ⟨gb17, 1, none⟩ = some (.int .i64 a1_1) ∧ w'.cell? ⟨gb17, 2, none⟩ = some (.int .i64 a1_2)) ⟨Xk B16 0, Xk B16 1, Xk B16 2, Xk B17 0, Xk B17 1, Xk B17 2⟩ (fun hHeld => ?_); refine with_tabW impl_compareHolds.tab1 impl_compareHolds.bits1 (fun HT_ HW_ => ?_)
 generalize w7.drew = w8 at B16 B17 HB hHeld ⊢
 refine Pu 0 5 13 1 ?_
 refine Pu 2 7 13 5 ?_
 refine Pu 5 10 13 37 ?_
 refine Pu 7 12 13 165 ?_
 refine Ta 1 6 13 167 ?_
 refine Ta 3 8 13 175 ?_
 refine Ta 6 11 13 239 ?_
 refine Ta 8 13 13 495 ?_
 refine On 4 9 13 511 (fun K hK => ?_)
 refine Gs Tryz.func129 #[.int .i64 a0_0, .int .i64 a1_0] ?_
 with_reducible refine (cmp_Compare_int.calls a0_0 a1_0 t12 _ A3.out).mono ?_
 rintro e w' ⟨rfl, ⟨nd, rfl⟩⟩
 refine ⟨_, rfl, ?_⟩
 refine hK.out _ _ ⟨Xk B16 0, Xk B16 1, Xk B16 2, Xk B17 0, Xk B17 1, Xk B17 2⟩ (fun hHeld => ?_)
 clear hK K
 refine Xno ?_
 refine On 9 14 13 1023 (fun K hK => ?_)
 refine Gs Tryz.func129 #[.int .i64 a0_1, .int .i64 a1_1] ?_
 with_reducible refine (cmp_Compare_int.calls a0_1 a1_1 t13 _ A4.out).mono ?_
 rintro e w' ⟨rfl, ⟨nd, rfl⟩⟩
 refine ⟨_, rfl, ?_⟩
 refine hK.out _ _ ⟨Xk B16 0, Xk B16 1, Xk B16 2, Xk B17 0, Xk B17 1, Xk B17 2⟩ (fun hHeld => ?_)
 clear hK K
 refine Xno ?_
 refine On 10 15 13 2047 (fun K hK => ?_)
 refine Kd.R_lit_step (Kd.int .i64) _ 3 ?hg (N := 15) ?hd (xs := ([t12, t13] : List Int)) (inner := [.int .i64 t12, .int .i64 t13]) (ok := fun _ => True) (okp := fun _ => True) ?hr ?hp (fun _ hk => hk) trivial (Below.refl _ _) (Nat.le_refl _) (by simp) ?_; (case hd => rfl); (case hg => rfl); (case hr => first | (go_simp; done) | (go_simp; rfl)); (case hp => exact (Reps.one (show Kd.M (Kd.int .i64) _ _ _ t12 [.int .i64 t12] from rfl) (Reps.one (show Kd.M (Kd.int .i64) _ _ _ t13 [.int .i64 t13] from rfl) (Reps.none _ _))))
 intro v510 w9 ho10 hb hg_ hnew_
 clear hg_ hnew_
 (first | rw [← Ny15.out] at ho10 | (simp only [Int.reduceToNat] at ho10; rw [← Ny15.out] at ho10))
 have HO18 := Am (Kd.R_lower ho10 (below_size Xi))
 replace B16 := Xbb B16 hb
 replace B17 := Xbb B17 hb
 replace HB := Xhb hb
 clear hb ho10
 obtain ⟨Ao11, co11, eo11⟩ := Kd.R_slice HO18.out
 (first | subst eo11 | (injection eo11 with f1_ f2_ f3_; have f4_ := f1_.symm; have f5_ := f3_.symm; clear f1_ f2_ f3_; subst f4_; subst f5_))
 refine hK.out _ _ ⟨Xk B16 0, Xk B16 1, Xk B16 2, Xk B17 0, Xk B17 1, Xk B17 2⟩ (fun hHeld => ?_)
 clear hK K
 refine Xno ?_
 refine On 11 16 13 4095 (fun K hK => ?_)
 refine Gs Tryz.func128 #[.slice Ao11 y15.length co11] ?_
 with_reducible refine (cmp_Or_int.calls k _ _ y15 t14 _ ?s1 ?s2 A5.out).mono ?_
 (case s1 => exact Xcd (Kd.R_reads' HO18.out).2.2)
 (case s2 => exact (Kd.R_reads' HO18.out).2.1)
 rintro e w' ⟨rfl, ⟨nd, rfl⟩⟩
 refine ⟨_, rfl, ?_⟩
 refine hK.out _ _ ⟨Xk B16 0, Xk B16 1, Xk B16 2, Xk B17 0, Xk B17 1, Xk B17 2⟩ (fun hHeld => ?_)
 clear hK K
 refine Xno ?_
 refine Pu 12 4 13 8191 ?_
 refine Dn ?_
 try go_wp2_with (fail)
 go_ret
 exact ⟨Xe, Xi⟩
end Go.Proofs.YtahhgjkgfbppeaaGreat.XA
