/- Words and contracts of this claim, put together out of several texts by a program of this session's. Conditions: each theorem's own premises. -/
import Derived.Test.YthkbgbkglgmpoaaZ1
import Derived.Test.YthkbgbkglgmpoaaZ2
namespace Go.Proofs.Ythkbgbkglgmpoaa.XA
open Go.RowKit Go.Proofs.YthkbgbkglgmpoaaW.PrintWords Go.Proofs.YthkbgbkglgmpoaaW.PrintLast Go.Proofs.YthkbgbkglgmpoaaW.PrintMore XW
attribute [local go_sem] max2_int min2_int max_two min_two max_three min_three max_four min_four   -- for this text's walks alone
set_option linter.unusedVariables false
set_option linter.unusedSimpArgs false
set_option maxHeartbeats 8000000
set_option maxRecDepth 100000
mutual
def spec_MayInsert.l0 : Nat → List (S97) → List Int → List Int → Int → Int → Int → Int → ByteArray → List Int → Option (List Int × Int)
 | 0, _, _, _, _, _, _, _, _, _ => none
 | k + 1, x0, x10, x11, x12, x263000, x263001, x263002, x263003, x263004 => if x12 ≤ (x0.length : Int) then (if 0 ≤ (wrap64 (x263001 - 1)) then (if (wrap64 (x263001 - 1)) < (x0.length : Int) then (if (rd_T97 x0 (wrap64 (x263001 - 1))).f1 = true then (spec_MayInsert.j1 k x0 x10 x11 x12 false x263000 x263001 x263002 x263003 x263004) else (spec_MayInsert.j1 k x0 x10 x11 x12 (decide ((x11.length : Int) < 12)) x263000 x263001 x263002 x263003 x263004)) else (none)) else (none)) else (spec_MayInsert.j1 k x0 x10 x11 x12 false x263000 x263001 x263002 x263003 x263004)
def spec_MayInsert.j1 : Nat → List (S97) → List Int → List Int → Int → Bool → Int → Int → Int → ByteArray → List Int → Option (List Int × Int)
 | 0, _, _, _, _, _, _, _, _, _, _ => none
 | k + 1, x0, x10, x11, x12, x65, x263000, x263001, x263002, x263003, x263004 => if x65 = true then (spec_MayInsert.l1 k x0 x10 x11 x12 false 0 x263000 x263001 x263002 x263003 x263004) else (some (x10, 0))
def spec_MayInsert.l1 : Nat → List (S97) → List Int → List Int → Int → Bool → Int → Int → Int → Int → ByteArray → List Int → Option (List Int × Int)
 | 0, _, _, _, _, _, _, _, _, _, _, _ => none
 | k + 1, x0, x10, x11, x12, x13, x14, x263000, x263001, x263002, x263003, x263004 => if x14 ≤ (x11.length : Int) then (if x13 = true then (spec_MayInsert.l1 k x0 x10 x11 x12 true (wrap64 (x14 + 1)) x263000 x263001 x263002 x263003 x263004) else (if 0 ≤ (wrap64 (x263001 - 1)) then (if (wrap64 (x263001 - 1)) < (x0.length : Int) then ((some (([] : List Int) : List Int)).bind fun y274 => (if 0 ≤ x14 then ((some (x11.take (x14 : Int).toNat : List Int)).bind fun y277 => (if y274.length + y277.length < 17592186044416 then ((some (y274 ++ y277 : List Int)).bind fun y282 => ((some (([x12] : List Int) : List Int)).bind fun y285 => (if y282.length + y285.length < 17592186044416 then ((some (y282 ++ y285 : List Int)).bind fun y288 => ((some (x11.drop (x14 : Int).toNat : List Int)).bind fun y291 => (if y288.length + y291.length < 17592186044416 then ((spec_l03Match.f k ((rd_T97 x0 (wrap64 (x263001 - 1))).f2) (y288 ++ y291)).bind fun t299 => (spec_MayInsert.l1 k x0 x10 x11 x12 t299 (wrap64 (x14 + 1)) x263000 x263001 x263002 x263003 x263004)) else (none)))) else (none)))) else (none))) else (none))) else (none)) else (none))) else (if x13 = true then ((some (([x12] : List Int) : List Int)).bind fun y300 => (if x10.length + y300.length < 17592186044416 then (spec_MayInsert.l0 k x0 (x10 ++ y300) x11 (wrap64 (x12 + 1)) x263000 x263001 x263002 x263003 x263004) else (none))) else (spec_MayInsert.l0 k x0 x10 x11 (wrap64 (x12 + 1)) x263000 x263001 x263002 x263003 x263004))
end
def spec_MayInsert.f (k : Nat) (l0 : List (S97)) (a1_0 : Int) (a1_1 : Int) (l1_2 : List (S103)) (a2 : Int) : Option (List Int × Int) := if (l0.length : Int) > 4096 then (some ((([] : List Int)), 2)) else ((spec_l03OK.f k l0).bind fun t252 => (if t252 = true then ((spec_l02Ask.f k a1_0 a1_1 l1_2 a2).bind fun t256 => (if t256 = 0 then ((spec_l02At.f k a1_0 a1_1 l1_2 a2).bind fun t260 => (if 0 ≤ t260 then (if t260 < (l1_2.length : Int) then (if ((rd_T103 l1_2 t260).f1) > (l0.length : Int) then (some ((([] : List Int)), 10)) else ((spec_l05Kids.f k a1_0 a1_1 l1_2 ((rd_T103 l1_2 t260).f0) ((rd_T103 l1_2 t260).f1) ((rd_T103 l1_2 t260).f2) ((rd_T103 l1_2 t260).f3) ((rd_T103 l1_2 t260).f4)).bind fun t269 => (spec_MayInsert.l0 k l0 (([] : List Int)) t269 1 ((rd_T103 l1_2 t260).f0) ((rd_T103 l1_2 t260).f1) ((rd_T103 l1_2 t260).f2) ((rd_T103 l1_2 t260).f3) ((rd_T103 l1_2 t260).f4)))) else (none)) else (none))) else (some ((([] : List Int)), t256)))) else (some ((([] : List Int)), 1))))
def spec_MayInsert.T8 : Bool × List (List Nat × List Nat) := (true, [([], []), ([0], [0]), ([], []), ([], []), ([2, 3], [2, 3]), ([1, 4], [1, 4]), ([5], [5]), ([], []), ([7, 6, 4, 0, 1, 2, 3, 4, 5, 6, 7], [6, 7])])
def spec_MayInsert.B8 : List Nat := [0, 1, 0, 0, 12, 31, 63, 0, 255]
theorem spec_MayInsert.tab8 : rtab .any (opsOf Try.f34 8) = spec_MayInsert.T8 := by kernel_rfl
theorem spec_MayInsert.bits8 : waitsOk spec_MayInsert.T8.2 spec_MayInsert.B8 = true := by kernel_rfl
def spec_MayInsert.T20 : Bool × List (List Nat × List Nat) := (true, [([], []), ([0], [0]), ([1], [1]), ([1], [1]), ([3, 1], [1, 3]), ([4, 1], [1, 4]), ([2, 5, 1], [1, 2, 5]), ([6, 1], [1, 6]), ([7, 1], [1, 7]), ([1], [1]), ([1], [1]), ([1], [1]), ([10, 11, 1], [1, 10, 11]), ([9, 12, 1, 1], [1, 9, 12]), ([1], [1]), ([14, 1], [1, 14]), ([13, 15, 13, 1], [1, 13, 15]), ([1], [1]), ([1], [1]), ([17, 18, 1], [1, 17, 18]), ([16, 19, 16, 1], [1, 16, 19]), ([8, 20, 20, 1], [1, 8, 20]), ([1, 21], [1, 21]), ([22, 21, 0, 1, 2, 3, 4, 5, 6, 7, 8, 9, 10, 11, 12, 13, 14, 15, 16, 17, 18, 19, 20, 21, 22], [0, 22])])
def spec_MayInsert.B20 : List Nat := [0, 1, 3, 3, 11, 27, 63, 127, 255, 3, 3, 3, 3075, 7683, 3, 16387, 65027, 3, 3, 393219, 1048067, 2097151, 4194303, 8388607]
theorem spec_MayInsert.tab20 : rtab .any (opsOf Try.f34 20) = spec_MayInsert.T20 := by kernel_rfl
theorem spec_MayInsert.bits20 : waitsOk spec_MayInsert.T20.2 spec_MayInsert.B20 = true := by kernel_rfl
theorem spec_MayInsert.calls (k : Nat) (A0 : Option Addr) (c0 : Nat) (l0 : List (S97)) (a1_0 : Int) (a1_1 : Int) (A1_2 : Option Addr) (c1_2 : Nat) (l1_2 : List (S103)) (a2 : Int) (r1 : List Int) (r2 : Int) (w : World) (hr0 : Kd.C k97 w A0 l0.length l0) (hc0 : l0.length ≤ c0) (hr1_2 : Kd.C k103 w A1_2 l1_2.length l1_2) (hc1_2 : l1_2.length ≤ c1_2) (h : spec_MayInsert.f k l0 a1_0 a1_1 l1_2 a2 = some (r1, r2)) :
  Calls Try.prog 34 #[.slice A0 l0.length c0, .agg #[.int .i64 a1_0, .int .i64 a1_1, .slice A1_2 l1_2.length c1_2], .int .i64 a2] w fun e w' => ∃ v0_ : Value, e = .returned (.tuple #[v0_, .int .i64 r2]) ∧ Kd.R (Kd.int .i64) 3 w' w.heap.size (fun _ => True) v0_ r1 ∧ Below w.heap.size w w' := by
 have hu65 := Try.underlying65
 have hu103 := Try.underlying103
 have HR0 := Aside0.mk hr0
 have HC0 := Aside0.mk hc0
 clear hr0 hc0
 have HR1_2 := Aside0.mk hr1_2
 have HC1_2 := Aside0.mk hc1_2
 clear hr1_2 hc1_2
 have HB := Aside0.mk (Below.refl w.heap.size w)
 have H : (if (l0.length : Int) > 4096 then (some ((([] : List Int)), 2)) else ((spec_l03OK.f k l0).bind fun t252 => (if t252 = true then ((spec_l02Ask.f k a1_0 a1_1 l1_2 a2).bind fun t256 => (if t256 = 0 then ((spec_l02At.f k a1_0 a1_1 l1_2 a2).bind fun t260 => (if 0 ≤ t260 then (if t260 < (l1_2.length : Int) then (if ((rd_T103 l1_2 t260).f1) > (l0.length : Int) then (some ((([] : List Int)), 10)) else ((spec_l05Kids.f k a1_0 a1_1 l1_2 ((rd_T103 l1_2 t260).f0) ((rd_T103 l1_2 t260).f1) ((rd_T103 l1_2 t260).f2) ((rd_T103 l1_2 t260).f3) ((rd_T103 l1_2 t260).f4)).bind fun t269 => (spec_MayInsert.l0 k l0 (([] : List Int)) t269 1 ((rd_T103 l1_2 t260).f0) ((rd_T103 l1_2 t260).f1) ((rd_T103 l1_2 t260).f2) ((rd_T103 l1_2 t260).f3) ((rd_T103 l1_2 t260).f4)))) else (none)) else (none))) else (some ((([] : List Int)), t256)))) else (some ((([] : List Int)), 1))))) = some (r1, r2) := h
 clear h
 have HC4 := Aside0.mk H
 clear H
 go_enter Try.func34, Try.ntmps34
 go_upto_if 17 with (first | ((with_reducible refine gate_dst (N := 4) rfl ?_); (try (refine gate_guard (by rfl) ?_; dsimp only)); refine Xbox 4 #[.int .i64 a1_0, .int .i64 a1_1, .slice A1_2 l1_2.length c1_2] 65 ?_; intro gb248 hg w5 hbox hb; have BK248 := Aside0.mk (hbox); have GE248 := Xge hg Xi; replace HB := Aside0.mk (below_step Xi hb); clear hb hbox hg))
 have H := HC4.out
 clear HC4
 obtain ⟨c6, H⟩ | ⟨c6, H⟩ := Xiu H
 ·have c6b0 : decide (4096 < (l0.length : Int)) = true := decide_eq_true c6
  have c6b1 : decide (4096 < l0.length) = true := decide_eq_true (by omega)
  clear c6
  (first | rw [c6b0] | (simp only [i64_w, i32_w]; rw [c6b0]) | skip)
  obtain ⟨y249, hy249⟩ : ∃ y_ : List Int, y_ = (([] : List Int)) := ⟨_, rfl⟩
  replace H : (some (y249, 2)) = some (r1, r2) := by first | (rw [hy249]; with_reducible exact H) | (have H2_ := (Option.bind_some _ _).symm.trans H; rw [hy249]; with_reducible exact H2_) | (have H2_ := (Option.bind_some _ _).symm.trans H; with_reducible exact H2_) | with_reducible exact H | (rw [hy249]; exact H) | exact H
  have Ny249 := Aside0.mk hy249
  clear hy249
  simp only [Option.some.injEq, Prod.mk.injEq] at H
  obtain ⟨rfl, rfl⟩ := H
  go_wp2_with (first | ((with_reducible refine gate_dst (N := 18) rfl ?_); (try (refine gate_guard (by rfl) ?_; dsimp only)); refine Kd.R_lit (Kd.int .i64) _ 3 ?hg (N := 18) ?hd (xs := ([] : List Int)) (inner := []) (ok := fun _ => True) (okp := fun _ => True) ?hr ?hp (fun _ hk => hk) trivial (Below.refl _ _) (Nat.le_refl _) (by simp) ?_; (case hd => rfl); (case hg => rfl); (case hr => first | (go_simp; done) | (go_simp; rfl)); (case hp => exact (Reps.none _ _)); intro v250 w7 ho8 hb hg_ hnew_; clear hg_ hnew_; (first | rw [← Ny249.out] at ho8 | (simp only [Int.reduceToNat] at ho8; rw [← Ny249.out] at ho8)); have HO251 := Aside0.mk (Kd.R_lower ho8 (below_size Xi)); replace BK248 := Xbb BK248 hb; replace HB := Aside0.mk (below_step Xi hb); clear hb ho8))
  go_ret2
  exact ⟨_, Xe, Xq HO251, Xi⟩
 have c6b0 : decide (4096 < (l0.length : Int)) = false := decide_eq_false c6
 have c6b1 : decide (4096 < l0.length) = false := decide_eq_false (by omega)
 clear c6
 (first | rw [c6b0] | (simp only [i64_w, i32_w]; rw [c6b0]) | skip)
 obtain ⟨t252, A9, H⟩ := Xbi H
 (try dsimp only at H)
 have HC10 := Aside0.mk H
 clear H
 go_upto_if 21 with (first | ((with_reducible refine gate_callee (f := 65) rfl ?_); refine Xgo 20 Try.func65 #[.slice A0 l0.length c0] ?_; (with_reducible refine (spec_l03OK.calls k _ _ l0 t252 _ ?side1 ?side2 A9.out).mono ?_); (case side1 => exact Xc HR0); (case side2 => exact HC0.out); rintro e w11 ⟨rfl, hb⟩; refine ⟨_, rfl, ?_⟩; replace BK248 := Xbb BK248 hb; replace HB := Aside0.mk (below_step Xi hb); clear hb))
 have H := HC10.out
 clear HC10
 by_cases c12 : t252 = true
 ·subst c12
  (first | rw [if_pos rfl] at H | skip)
  obtain ⟨t256, A13, H⟩ := Xbi H
  (try dsimp only at H)
  have HC14 := Aside0.mk H
  clear H
  obtain ⟨hcz15_0, hcz15_1, hcz15_2⟩ := Xc3 BK248
  obtain ⟨hfz15_0, hfz15_1, hfz15_2⟩ := Xf3 BK248
  go_upto_if 27 with (first | ((with_reducible refine gate_callee (f := 74) rfl ?_); refine Xgo 25 Try.func74 #[.agg #[.int .i64 a1_0, .int .i64 a1_1, .slice A1_2 l1_2.length c1_2], .int .i64 a2] ?_; (with_reducible refine (spec_l02Ask.calls k a1_0 a1_1 _ _ l1_2 a2 t256 _ ?side1 ?side2 A13.out).mono ?_); (case side1 => exact Xc HR1_2); (case side2 => exact HC1_2.out); rintro e w16 ⟨rfl, hb⟩; refine ⟨_, rfl, ?_⟩; replace BK248 := Xbb BK248 hb; replace HB := Aside0.mk (below_step Xi hb); clear hb))
  have H := HC14.out
  clear HC14
  obtain ⟨c17, H⟩ | ⟨c17, H⟩ := Xiu H
  ·have c17b0 : (t256 == 0) = true := beq_iff_eq.mpr c17
   have c17b1 : (t256 != 0) = false := bne_eq_false_iff_eq.mpr c17
   clear c17
   (first | rw [c17b0] | (simp only [i64_w, i32_w]; rw [c17b0]) | skip)
   obtain ⟨t260, A18, H⟩ := Xbi H
   (try dsimp only at H)
   obtain ⟨c19b0, H⟩ := Xid H
   obtain ⟨c20b0, H⟩ := Xid H
   have HC21 := Aside0.mk H
   clear H
   try go_wp2_with (fail)
   replace BK248 := Aside0.mk (blk_drew BK248.out)
   replace HB := Aside0.mk (below_drew1 HB.out)
   have p261 : 0 ≤ (t260 : Int) := of_decide_eq_true Xa
   have q261 : t260 < (l1_2.length : Int) := of_decide_eq_true Xa
   obtain ⟨ad261, A261_4, c261_4, e261, hx261_0, hx261_1, hx261_2, hx261_3, hx261_4, hl261_4, hi261_4⟩ := at_T103 HR1_2.out t260 p261 q261
   have hw261_4 := hx261_4
   have hw261_3 := hx261_3
   have hw261_2 := hx261_2
   have hw261_1 := hx261_1
   have hw261_0 := hx261_0
   cases e261
   replace hx261_0 := Xm HB hx261_0
   replace hx261_1 := Xm HB hx261_1
   replace hx261_2 := Xm HB hx261_2
   replace hx261_3 := Xm HB hx261_3
   replace hx261_4 := Xm HB hx261_4
   have HR261_4 := Aside0.mk hi261_4
   have HC261_4 := Aside0.mk hl261_4
   clear hi261_4 hl261_4
   replace p261 := eq_true p261
   replace q261 := eq_true q261
   refine start_ (n := 9) (S := fun w' => w'.cell? ⟨gb248, 0, none⟩ = some (.int .i64 a1_0) ∧ w'.cell? ⟨gb248, 1, none⟩ = some (.int .i64 a1_1) ∧ w'.cell? ⟨gb248, 2, none⟩ = some (.slice (some ad261) l1_2.length c1_2) ∧ w'.cell? (ad261.add ((t260).toNat * 5)) = some (.int .i64 ((rd_T103 l1_2 t260).f0)) ∧ w'.cell? ⟨(ad261.add ((t260).toNat * 5)).block, (ad261.add ((t260).toNat * 5)).off + 1, none⟩ = some (.int .i64 ((rd_T103 l1_2 t260).f1)) ∧ w'.cell? ⟨(ad261.add ((t260).toNat * 5)).block, (ad261.add ((t260).toNat * 5)).off + 2, none⟩ = some (.int .i64 ((rd_T103 l1_2 t260).f2)) ∧ w'.cell? ⟨(ad261.add ((t260).toNat * 5)).block, (ad261.add ((t260).toNat * 5)).off + 3, none⟩ = some (.string ((rd_T103 l1_2 t260).f3)) ∧ w'.cell? ⟨(ad261.add ((t260).toNat * 5)).block, (ad261.add ((t260).toNat * 5)).off + 4, none⟩ = some (.slice A261_4 ((rd_T103 l1_2 t260).f4).length c261_4)) (ds := []) #[false, false, false, false, false, false, false, false, false] (by kernel_rfl) rfl rfl ⟨(blk_cell BK248.out 0).trans rfl, (blk_cell BK248.out 1).trans rfl, (blk_cell BK248.out 2).trans rfl, Xn hw261_0, Xn hw261_1, Xn hw261_2, Xn hw261_3, Xn hw261_4⟩ (fun hHeld => ?_); refine with_tabW spec_MayInsert.tab8 spec_MayInsert.bits8 (fun HT_ HW_ => ?_)
   generalize w16.drew = w22 at BK248 HB HR261_4 hx261_0 hx261_1 hx261_2 hx261_3 hx261_4 hHeld ⊢
   refine Xpu 0 30 (XW.bs 9 1) HT_.out ?_
   refine Xpu 3 33 (XW.bs 9 9) HT_.out ?_
   refine Xta 1 31 (XW.bs 9 11) HT_.out HW_.out hHeld ?_
   refine Xta 2 32 (XW.bs 9 15) HT_.out HW_.out hHeld ?_
   refine join_ (σ := Nat) 1 #[true, true, true, true, true, true, true, true, false] (fun s_ => [(34, .int .i64 t260), (9, .pointer (some ⟨s_, 0, none⟩)), (35, .pointer (some (ad261.add ((t260).toNat * 5)))), (36, .agg #[.int .i64 ((rd_T103 l1_2 t260).f0), .int .i64 ((rd_T103 l1_2 t260).f1), .int .i64 ((rd_T103 l1_2 t260).f2), .string ((rd_T103 l1_2 t260).f3), .slice A261_4 ((rd_T103 l1_2 t260).f4).length c261_4])]) (fun s_ w' => (w'.cell? ⟨gb248, 0, none⟩ = some (.int .i64 a1_0) ∧ w'.cell? ⟨gb248, 1, none⟩ = some (.int .i64 a1_1) ∧ w'.cell? ⟨gb248, 2, none⟩ = some (.slice (some ad261) l1_2.length c1_2) ∧ w'.cell? (ad261.add ((t260).toNat * 5)) = some (.int .i64 ((rd_T103 l1_2 t260).f0)) ∧ w'.cell? ⟨(ad261.add ((t260).toNat * 5)).block, (ad261.add ((t260).toNat * 5)).off + 1, none⟩ = some (.int .i64 ((rd_T103 l1_2 t260).f1)) ∧ w'.cell? ⟨(ad261.add ((t260).toNat * 5)).block, (ad261.add ((t260).toNat * 5)).off + 2, none⟩ = some (.int .i64 ((rd_T103 l1_2 t260).f2)) ∧ w'.cell? ⟨(ad261.add ((t260).toNat * 5)).block, (ad261.add ((t260).toNat * 5)).off + 3, none⟩ = some (.string ((rd_T103 l1_2 t260).f3)) ∧ w'.cell? ⟨(ad261.add ((t260).toNat * 5)).block, (ad261.add ((t260).toNat * 5)).off + 4, none⟩ = some (.slice A261_4 ((rd_T103 l1_2 t260).f4).length c261_4)) ∧ (w'.heap[gb248]? = some (.cells #[.int .i64 a1_0, .int .i64 a1_1, .slice (some ad261) l1_2.length c1_2] 65 (0, 0))) ∧ (w'.heap[s_]? = some (.cells #[.int .i64 0, .int .i64 0, .int .i64 0, .string (⟨#[]⟩ : ByteArray), .slice none 0 0] 103 (0, 0))) ∧ (w.heap.size ≤ s_) ∧ (w.heap.size ≤ s_) ∧ (gb248 ≠ s_) ∧ (s_ ≠ gb248) ∧ (Below w.heap.size w w')) ?_ ?_
   rotate_left
   ·intro hCont
    refine two_ (i := 4) (j := 7) (Ni := some 34) (Nj := some 9) #[true, true, true, true, true, false, false, false, false] #[true, true, true, true, false, false, false, true, false] rfl rfl rfl rfl (two_of HT_.out (by kernel_rfl)) (by decide) (by decide) (fun K hK => ?_) (fun K hK => ?_)
    ·skip
     refine goes_ Try.func75 (by kernel_rfl) rfl #[.agg #[.int .i64 a1_0, .int .i64 a1_1, .slice (some ad261) l1_2.length c1_2], .int .i64 a2] (by rfl) rfl rfl (by (try simp only [List.map_toArray, List.map_cons, List.map_nil]); first | done | rfl | (simp only [List.length_drop, List.length_take]; rfl)) ?_
     with_reducible refine (spec_l02At.calls k a1_0 a1_1 _ _ l1_2 a2 t260 _ ?side1 ?side2 A18.out).mono ?_
     (case side1 => exact Xc HR1_2)
     (case side2 => exact HC1_2.out)
     rintro e w23 ⟨rfl, hb⟩
     refine ⟨_, rfl, ?_⟩
     replace BK248 := Xbb BK248 hb
     replace HB := Aside0.mk (below_step Xi hb)
     (try clear hb)
     (try clear hb2)
     (try clear hk)
     (try clear hi)
     refine hK.out _ _ ⟨(blk_cell BK248.out 0).trans rfl, (blk_cell BK248.out 1).trans rfl, (blk_cell BK248.out 2).trans rfl, Xn hw261_0, Xn hw261_1, Xn hw261_2, Xn hw261_3, Xn hw261_4⟩ (fun hHeld => ?_)
     clear hK K
     refine Xno ?_
     refine Xpu 5 35 (XW.bs 9 63) HT_.out ?_
     refine Xta 6 36 (XW.bs 9 127) HT_.out HW_.out hHeld ?_
     refine one_ (i := 7) (N := some 9) (XW.bs 9 255) rfl rfl (one_of HT_.out (by kernel_rfl)) (by decide) (fun K hK => ?_)
     refine box_step ?hg (N := 9) ?hd (cs := #[.int .i64 0, .int .i64 0, .int .i64 0, .string (⟨#[]⟩ : ByteArray), .slice none 0 0]) (t := 103) ?hr ?_; (case hd => rfl); (case hg => rfl); (case hr => first | (go_simp; done) | (go_simp; rfl))
     intro gb262 hg w24 hbox hb
     have BK262 := Aside0.mk (hbox)
     have GW262 := Aside0.mk ((by rw [hg]; exact (below_size Xi) : w.heap.size ≤ gb262))
     have GE262 := Aside0.mk ((by rw [hg]; exact (below_size Xi) : w.heap.size ≤ gb262))
     replace HB := Aside0.mk (below_step Xi hb)
     have NB248_262 := Aside0.mk ((by rw [hg]; exact Nat.ne_of_lt (blk_lt (g := gb248) (o := .cells #[.int .i64 a1_0, .int .i64 a1_1, .slice (some ad261) l1_2.length c1_2] 65 (0, 0)) (Xq' BK248)) : gb248 ≠ gb262))
     have NB262_248 := Aside0.mk ((by rw [hg]; exact Nat.ne_of_gt (blk_lt (g := gb248) (o := .cells #[.int .i64 a1_0, .int .i64 a1_1, .slice (some ad261) l1_2.length c1_2] 65 (0, 0)) (Xq' BK248)) : gb262 ≠ gb248))
     replace BK248 := Xbb BK248 hb
     clear hb hbox hg
     refine hK.out _ _ ⟨(blk_cell BK248.out 0).trans rfl, (blk_cell BK248.out 1).trans rfl, (blk_cell BK248.out 2).trans rfl, Xn hw261_0, Xn hw261_1, Xn hw261_2, Xn hw261_3, Xn hw261_4⟩ (fun hHeld => ?_)
     clear hK K
     refine Xno ?_
     exact norm_ (by simp only [putAll, Act.put, List.setIfInBounds_toArray, List.set_cons_zero, List.set_cons_succ]) (hCont (gb262) _ ⟨hHeld, (Xq' BK248), (Xq' BK262), GW262.out, GE262.out, NB248_262.out, NB262_248.out, Xi⟩)
    skip
    refine box_step ?hg (N := 9) ?hd (cs := #[.int .i64 0, .int .i64 0, .int .i64 0, .string (⟨#[]⟩ : ByteArray), .slice none 0 0]) (t := 103) ?hr ?_; (case hd => rfl); (case hg => rfl); (case hr => first | (go_simp; done) | (go_simp; rfl))
    intro gb262 hg w23 hbox hb
    have BK262 := Aside0.mk (hbox)
    have GW262 := Aside0.mk ((by rw [hg]; exact (below_size Xi) : w.heap.size ≤ gb262))
    have GE262 := Aside0.mk ((by rw [hg]; exact (below_size Xi) : w.heap.size ≤ gb262))
    replace HB := Aside0.mk (below_step Xi hb)
    have NB248_262 := Aside0.mk ((by rw [hg]; exact Nat.ne_of_lt (blk_lt (g := gb248) (o := .cells #[.int .i64 a1_0, .int .i64 a1_1, .slice (some ad261) l1_2.length c1_2] 65 (0, 0)) (Xq' BK248)) : gb248 ≠ gb262))
    have NB262_248 := Aside0.mk ((by rw [hg]; exact Nat.ne_of_gt (blk_lt (g := gb248) (o := .cells #[.int .i64 a1_0, .int .i64 a1_1, .slice (some ad261) l1_2.length c1_2] 65 (0, 0)) (Xq' BK248)) : gb262 ≠ gb248))
    replace BK248 := Xbb BK248 hb
    clear hb hbox hg
    refine hK.out _ _ ⟨(blk_cell BK248.out 0).trans rfl, (blk_cell BK248.out 1).trans rfl, (blk_cell BK248.out 2).trans rfl, Xn hw261_0, Xn hw261_1, Xn hw261_2, Xn hw261_3, Xn hw261_4⟩ (fun hHeld => ?_)
    clear hK K
    refine Xno ?_
    refine one_ (i := 4) (N := some 34) (XW.bs 9 159) rfl rfl (one_of HT_.out (by kernel_rfl)) (by decide) (fun K hK => ?_)
    refine goes_ Try.func75 (by kernel_rfl) rfl #[.agg #[.int .i64 a1_0, .int .i64 a1_1, .slice (some ad261) l1_2.length c1_2], .int .i64 a2] (by rfl) rfl rfl (by (try simp only [List.map_toArray, List.map_cons, List.map_nil]); first | done | rfl | (simp only [List.length_drop, List.length_take]; rfl)) ?_
    with_reducible refine (spec_l02At.calls k a1_0 a1_1 _ _ l1_2 a2 t260 _ ?side1 ?side2 A18.out).mono ?_
    (case side1 => exact Xc HR1_2)
    (case side2 => exact HC1_2.out)
    rintro e w24 ⟨rfl, hb⟩
    refine ⟨_, rfl, ?_⟩
    replace BK248 := Xbb BK248 hb
    replace BK262 := Xbb BK262 hb
    replace HB := Aside0.mk (below_step Xi hb)
    (try clear hb)
    (try clear hb2)
    (try clear hk)
    (try clear hi)
    refine hK.out _ _ ⟨(blk_cell BK248.out 0).trans rfl, (blk_cell BK248.out 1).trans rfl, (blk_cell BK248.out 2).trans rfl, Xn hw261_0, Xn hw261_1, Xn hw261_2, Xn hw261_3, Xn hw261_4⟩ (fun hHeld => ?_)
    clear hK K
    refine Xno ?_
    refine Xpu 5 35 (XW.bs 9 191) HT_.out ?_
    refine Xta 6 36 (XW.bs 9 255) HT_.out HW_.out hHeld ?_
    exact norm_ (by simp only [putAll, Act.put, List.setIfInBounds_toArray, List.set_cons_zero, List.set_cons_succ]) (hCont (gb262) _ ⟨hHeld, (Xq' BK248), (Xq' BK262), GW262.out, GE262.out, NB248_262.out, NB262_248.out, Xi⟩)
   rintro gb262 w25 ⟨hS_, h0_, h1_, h2_, h3_, h4_, h5_, h6_⟩
   have n0_ : Aside0 (w25.heap[gb248]? = some (.cells #[.int .i64 a1_0, .int .i64 a1_1, .slice (some ad261) l1_2.length c1_2] 65 (0, 0))) := ⟨h0_⟩
   have n1_ : Aside0 (w25.heap[gb262]? = some (.cells #[.int .i64 0, .int .i64 0, .int .i64 0, .string (⟨#[]⟩ : ByteArray), .slice none 0 0] 103 (0, 0))) := ⟨h1_⟩
   have n2_ : Aside0 (w.heap.size ≤ gb262) := ⟨h2_⟩
   have n3_ : Aside0 (w.heap.size ≤ gb262) := ⟨h3_⟩
   have n4_ : Aside0 (gb248 ≠ gb262) := ⟨h4_⟩
   have n5_ : Aside0 (gb262 ≠ gb248) := ⟨h5_⟩
   have n6_ : Aside0 (Below w.heap.size w w25) := ⟨h6_⟩
   clear BK248
   clear HB
   clear h0_ h1_ h2_ h3_ h4_ h5_ h6_
   have BK248 := n0_
   have BK262 := n1_
   have GW262 := n2_
   have GE262 := n3_
   have NB248_262 := n4_
   have NB262_248 := n5_
   have HB := n6_
   clear n0_ n1_ n2_ n3_ n4_ n5_ n6_
   have hHeld : w25.cell? ⟨gb248, 0, none⟩ = some (.int .i64 a1_0) ∧ w25.cell? ⟨gb248, 1, none⟩ = some (.int .i64 a1_1) ∧ w25.cell? ⟨gb248, 2, none⟩ = some (.slice (some ad261) l1_2.length c1_2) ∧ w25.cell? (ad261.add ((t260).toNat * 5)) = some (.int .i64 ((rd_T103 l1_2 t260).f0)) ∧ w25.cell? ⟨(ad261.add ((t260).toNat * 5)).block, (ad261.add ((t260).toNat * 5)).off + 1, none⟩ = some (.int .i64 ((rd_T103 l1_2 t260).f1)) ∧ w25.cell? ⟨(ad261.add ((t260).toNat * 5)).block, (ad261.add ((t260).toNat * 5)).off + 2, none⟩ = some (.int .i64 ((rd_T103 l1_2 t260).f2)) ∧ w25.cell? ⟨(ad261.add ((t260).toNat * 5)).block, (ad261.add ((t260).toNat * 5)).off + 3, none⟩ = some (.string ((rd_T103 l1_2 t260).f3)) ∧ w25.cell? ⟨(ad261.add ((t260).toNat * 5)).block, (ad261.add ((t260).toNat * 5)).off + 4, none⟩ = some (.slice A261_4 ((rd_T103 l1_2 t260).f4).length c261_4) := hS_
   refine norm_ (a' := ?_) ?_ ?_
   rotate_left
   ·simp only [putAll, Act.put, List.setIfInBounds_toArray, List.set_cons_zero, List.set_cons_succ]
    rfl
   refine one_ (i := 8) (N := none) (XW.bs 9 511) rfl rfl (one_of HT_.out (by kernel_rfl)) (by decide) (fun K hK => ?_)
   have hs26 : w25.cell? ⟨gb262, 0, none⟩ = some (.int .i64 0) := (blk_cell BK262.out 0).trans rfl
   have hfs26 := blk_frozen BK262.out 0
   have hns26_0 := NB248_262.out
   have hms26_0 := NB262_248.out
   have hs27 : w25.cell? ⟨gb262, 1, none⟩ = some (.int .i64 0) := (blk_cell BK262.out 1).trans rfl
   have hfs27 := blk_frozen BK262.out 1
   have hns27_0 := NB248_262.out
   have hms27_0 := NB262_248.out
   have hs28 : w25.cell? ⟨gb262, 2, none⟩ = some (.int .i64 0) := (blk_cell BK262.out 2).trans rfl
   have hfs28 := blk_frozen BK262.out 2
   have hns28_0 := NB248_262.out
   have hms28_0 := NB262_248.out
   have hs29 : w25.cell? ⟨gb262, 3, none⟩ = some (.string (⟨#[]⟩ : ByteArray)) := (blk_cell BK262.out 3).trans rfl
   have hfs29 := blk_frozen BK262.out 3
   have hns29_0 := NB248_262.out
   have hms29_0 := NB262_248.out
   have hs30 : w25.cell? ⟨gb262, 4, none⟩ = some (.slice none 0 0) := (blk_cell BK262.out 4).trans rfl
   have hfs30 := blk_frozen BK262.out 4
   have hns30_0 := NB248_262.out
   have hms30_0 := NB262_248.out
   refine skip_ (w1 := ?_) (by rfl) rfl ?_ ?_
   rotate_left
   ·go_simp
    rfl
   refine hK.out _ _ ⟨((cell_far (p := ⟨gb262, _, none⟩) NB248_262.out _).trans (((cell_far (p := ⟨gb262, _, none⟩) NB248_262.out _).trans (((cell_far (p := ⟨gb262, _, none⟩) NB248_262.out _).trans (((cell_far (p := ⟨gb262, _, none⟩) NB248_262.out _).trans (((cell_far (p := ⟨gb262, _, none⟩) NB248_262.out _).trans (hHeld.1)))))))))), ((cell_far (p := ⟨gb262, _, none⟩) NB248_262.out _).trans (((cell_far (p := ⟨gb262, _, none⟩) NB248_262.out _).trans (((cell_far (p := ⟨gb262, _, none⟩) NB248_262.out _).trans (((cell_far (p := ⟨gb262, _, none⟩) NB248_262.out _).trans (((cell_far (p := ⟨gb262, _, none⟩) NB248_262.out _).trans (hHeld.2.1)))))))))), ((cell_far (p := ⟨gb262, _, none⟩) NB248_262.out _).trans (((cell_far (p := ⟨gb262, _, none⟩) NB248_262.out _).trans (((cell_far (p := ⟨gb262, _, none⟩) NB248_262.out _).trans (((cell_far (p := ⟨gb262, _, none⟩) NB248_262.out _).trans (((cell_far (p := ⟨gb262, _, none⟩) NB248_262.out _).trans (hHeld.2.2.1)))))))))), ((cell_far (p := ⟨gb262, _, none⟩) (by first | exact Nat.ne_of_lt (Nat.lt_of_lt_of_le (by have := World.block_lt_of_cell? _ _ hw261_0; first | rwa [add_block] at this | exact this) GW262.out) | (rw [add_block]; exact Nat.ne_of_lt (Nat.lt_of_lt_of_le (by have := World.block_lt_of_cell? _ _ hw261_0; first | rwa [add_block] at this | exact this) GW262.out)) | (show (Addr.add _ _).block ≠ _; rw [add_block]; exact Nat.ne_of_lt (Nat.lt_of_lt_of_le (by have := World.block_lt_of_cell? _ _ hw261_0; first | rwa [add_block] at this | exact this) GW262.out)) | (dsimp only; exact Nat.ne_of_lt (Nat.lt_of_lt_of_le (by have := World.block_lt_of_cell? _ _ hw261_0; first | rwa [add_block] at this | exact this) GW262.out))) _).trans (((cell_far (p := ⟨gb262, _, none⟩) (by first | exact Nat.ne_of_lt (Nat.lt_of_lt_of_le (by have := World.block_lt_of_cell? _ _ hw261_0; first | rwa [add_block] at this | exact this) GW262.out) | (rw [add_block]; exact Nat.ne_of_lt (Nat.lt_of_lt_of_le (by have := World.block_lt_of_cell? _ _ hw261_0; first | rwa [add_block] at this | exact this) GW262.out)) | (show (Addr.add _ _).block ≠ _; rw [add_block]; exact Nat.ne_of_lt (Nat.lt_of_lt_of_le (by have := World.block_lt_of_cell? _ _ hw261_0; first | rwa [add_block] at this | exact this) GW262.out)) | (dsimp only; exact Nat.ne_of_lt (Nat.lt_of_lt_of_le (by have := World.block_lt_of_cell? _ _ hw261_0; first | rwa [add_block] at this | exact this) GW262.out))) _).trans (((cell_far (p := ⟨gb262, _, none⟩) (by first | exact Nat.ne_of_lt (Nat.lt_of_lt_of_le (by have := World.block_lt_of_cell? _ _ hw261_0; first | rwa [add_block] at this | exact this) GW262.out) | (rw [add_block]; exact Nat.ne_of_lt (Nat.lt_of_lt_of_le (by have := World.block_lt_of_cell? _ _ hw261_0; first | rwa [add_block] at this | exact this) GW262.out)) | (show (Addr.add _ _).block ≠ _; rw [add_block]; exact Nat.ne_of_lt (Nat.lt_of_lt_of_le (by have := World.block_lt_of_cell? _ _ hw261_0; first | rwa [add_block] at this | exact this) GW262.out)) | (dsimp only; exact Nat.ne_of_lt (Nat.lt_of_lt_of_le (by have := World.block_lt_of_cell? _ _ hw261_0; first | rwa [add_block] at this | exact this) GW262.out))) _).trans (((cell_far (p := ⟨gb262, _, none⟩) (by first | exact Nat.ne_of_lt (Nat.lt_of_lt_of_le (by have := World.block_lt_of_cell? _ _ hw261_0; first | rwa [add_block] at this | exact this) GW262.out) | (rw [add_block]; exact Nat.ne_of_lt (Nat.lt_of_lt_of_le (by have := World.block_lt_of_cell? _ _ hw261_0; first | rwa [add_block] at this | exact this) GW262.out)) | (show (Addr.add _ _).block ≠ _; rw [add_block]; exact Nat.ne_of_lt (Nat.lt_of_lt_of_le (by have := World.block_lt_of_cell? _ _ hw261_0; first | rwa [add_block] at this | exact this) GW262.out)) | (dsimp only; exact Nat.ne_of_lt (Nat.lt_of_lt_of_le (by have := World.block_lt_of_cell? _ _ hw261_0; first | rwa [add_block] at this | exact this) GW262.out))) _).trans (((cell_far (p := ⟨gb262, _, none⟩) (by first | exact Nat.ne_of_lt (Nat.lt_of_lt_of_le (by have := World.block_lt_of_cell? _ _ hw261_0; first | rwa [add_block] at this | exact this) GW262.out) | (rw [add_block]; exact Nat.ne_of_lt (Nat.lt_of_lt_of_le (by have := World.block_lt_of_cell? _ _ hw261_0; first | rwa [add_block] at this | exact this) GW262.out)) | (show (Addr.add _ _).block ≠ _; rw [add_block]; exact Nat.ne_of_lt (Nat.lt_of_lt_of_le (by have := World.block_lt_of_cell? _ _ hw261_0; first | rwa [add_block] at this | exact this) GW262.out)) | (dsimp only; exact Nat.ne_of_lt (Nat.lt_of_lt_of_le (by have := World.block_lt_of_cell? _ _ hw261_0; first | rwa [add_block] at this | exact this) GW262.out))) _).trans (hHeld.2.2.2.1)))))))))), ((cell_far (p := ⟨gb262, _, none⟩) (by first | exact Nat.ne_of_lt (Nat.lt_of_lt_of_le (by have := World.block_lt_of_cell? _ _ hw261_1; first | rwa [add_block] at this | exact this) GW262.out) | (rw [add_block]; exact Nat.ne_of_lt (Nat.lt_of_lt_of_le (by have := World.block_lt_of_cell? _ _ hw261_1; first | rwa [add_block] at this | exact this) GW262.out)) | (show (Addr.add _ _).block ≠ _; rw [add_block]; exact Nat.ne_of_lt (Nat.lt_of_lt_of_le (by have := World.block_lt_of_cell? _ _ hw261_1; first | rwa [add_block] at this | exact this) GW262.out)) | (dsimp only; exact Nat.ne_of_lt (Nat.lt_of_lt_of_le (by have := World.block_lt_of_cell? _ _ hw261_1; first | rwa [add_block] at this | exact this) GW262.out))) _).trans (((cell_far (p := ⟨gb262, _, none⟩) (by first | exact Nat.ne_of_lt (Nat.lt_of_lt_of_le (by have := World.block_lt_of_cell? _ _ hw261_1; first | rwa [add_block] at this | exact this) GW262.out) | (rw [add_block]; exact Nat.ne_of_lt (Nat.lt_of_lt_of_le (by have := World.block_lt_of_cell? _ _ hw261_1; first | rwa [add_block] at this | exact this) GW262.out)) | (show (Addr.add _ _).block ≠ _; rw [add_block]; exact Nat.ne_of_lt (Nat.lt_of_lt_of_le (by have := World.block_lt_of_cell? _ _ hw261_1; first | rwa [add_block] at this | exact this) GW262.out)) | (dsimp only; exact Nat.ne_of_lt (Nat.lt_of_lt_of_le (by have := World.block_lt_of_cell? _ _ hw261_1; first | rwa [add_block] at this | exact this) GW262.out))) _).trans (((cell_far (p := ⟨gb262, _, none⟩) (by first | exact Nat.ne_of_lt (Nat.lt_of_lt_of_le (by have := World.block_lt_of_cell? _ _ hw261_1; first | rwa [add_block] at this | exact this) GW262.out) | (rw [add_block]; exact Nat.ne_of_lt (Nat.lt_of_lt_of_le (by have := World.block_lt_of_cell? _ _ hw261_1; first | rwa [add_block] at this | exact this) GW262.out)) | (show (Addr.add _ _).block ≠ _; rw [add_block]; exact Nat.ne_of_lt (Nat.lt_of_lt_of_le (by have := World.block_lt_of_cell? _ _ hw261_1; first | rwa [add_block] at this | exact this) GW262.out)) | (dsimp only; exact Nat.ne_of_lt (Nat.lt_of_lt_of_le (by have := World.block_lt_of_cell? _ _ hw261_1; first | rwa [add_block] at this | exact this) GW262.out))) _).trans (((cell_far (p := ⟨gb262, _, none⟩) (by first | exact Nat.ne_of_lt (Nat.lt_of_lt_of_le (by have := World.block_lt_of_cell? _ _ hw261_1; first | rwa [add_block] at this | exact this) GW262.out) | (rw [add_block]; exact Nat.ne_of_lt (Nat.lt_of_lt_of_le (by have := World.block_lt_of_cell? _ _ hw261_1; first | rwa [add_block] at this | exact this) GW262.out)) | (show (Addr.add _ _).block ≠ _; rw [add_block]; exact Nat.ne_of_lt (Nat.lt_of_lt_of_le (by have := World.block_lt_of_cell? _ _ hw261_1; first | rwa [add_block] at this | exact this) GW262.out)) | (dsimp only; exact Nat.ne_of_lt (Nat.lt_of_lt_of_le (by have := World.block_lt_of_cell? _ _ hw261_1; first | rwa [add_block] at this | exact this) GW262.out))) _).trans (((cell_far (p := ⟨gb262, _, none⟩) (by first | exact Nat.ne_of_lt (Nat.lt_of_lt_of_le (by have := World.block_lt_of_cell? _ _ hw261_1; first | rwa [add_block] at this | exact this) GW262.out) | (rw [add_block]; exact Nat.ne_of_lt (Nat.lt_of_lt_of_le (by have := World.block_lt_of_cell? _ _ hw261_1; first | rwa [add_block] at this | exact this) GW262.out)) | (show (Addr.add _ _).block ≠ _; rw [add_block]; exact Nat.ne_of_lt (Nat.lt_of_lt_of_le (by have := World.block_lt_of_cell? _ _ hw261_1; first | rwa [add_block] at this | exact this) GW262.out)) | (dsimp only; exact Nat.ne_of_lt (Nat.lt_of_lt_of_le (by have := World.block_lt_of_cell? _ _ hw261_1; first | rwa [add_block] at this | exact this) GW262.out))) _).trans (hHeld.2.2.2.2.1)))))))))), ((cell_far (p := ⟨gb262, _, none⟩) (by first | exact Nat.ne_of_lt (Nat.lt_of_lt_of_le (by have := World.block_lt_of_cell? _ _ hw261_2; first | rwa [add_block] at this | exact this) GW262.out) | (rw [add_block]; exact Nat.ne_of_lt (Nat.lt_of_lt_of_le (by have := World.block_lt_of_cell? _ _ hw261_2; first | rwa [add_block] at this | exact this) GW262.out)) | (show (Addr.add _ _).block ≠ _; rw [add_block]; exact Nat.ne_of_lt (Nat.lt_of_lt_of_le (by have := World.block_lt_of_cell? _ _ hw261_2; first | rwa [add_block] at this | exact this) GW262.out)) | (dsimp only; exact Nat.ne_of_lt (Nat.lt_of_lt_of_le (by have := World.block_lt_of_cell? _ _ hw261_2; first | rwa [add_block] at this | exact this) GW262.out))) _).trans (((cell_far (p := ⟨gb262, _, none⟩) (by first | exact Nat.ne_of_lt (Nat.lt_of_lt_of_le (by have := World.block_lt_of_cell? _ _ hw261_2; first | rwa [add_block] at this | exact this) GW262.out) | (rw [add_block]; exact Nat.ne_of_lt (Nat.lt_of_lt_of_le (by have := World.block_lt_of_cell? _ _ hw261_2; first | rwa [add_block] at this | exact this) GW262.out)) | (show (Addr.add _ _).block ≠ _; rw [add_block]; exact Nat.ne_of_lt (Nat.lt_of_lt_of_le (by have := World.block_lt_of_cell? _ _ hw261_2; first | rwa [add_block] at this | exact this) GW262.out)) | (dsimp only; exact Nat.ne_of_lt (Nat.lt_of_lt_of_le (by have := World.block_lt_of_cell? _ _ hw261_2; first | rwa [add_block] at this | exact this) GW262.out))) _).trans (((cell_far (p := ⟨gb262, _, none⟩) (by first | exact Nat.ne_of_lt (Nat.lt_of_lt_of_le (by have := World.block_lt_of_cell? _ _ hw261_2; first | rwa [add_block] at this | exact this) GW262.out) | (rw [add_block]; exact Nat.ne_of_lt (Nat.lt_of_lt_of_le (by have := World.block_lt_of_cell? _ _ hw261_2; first | rwa [add_block] at this | exact this) GW262.out)) | (show (Addr.add _ _).block ≠ _; rw [add_block]; exact Nat.ne_of_lt (Nat.lt_of_lt_of_le (by have := World.block_lt_of_cell? _ _ hw261_2; first | rwa [add_block] at this | exact this) GW262.out)) | (dsimp only; exact Nat.ne_of_lt (Nat.lt_of_lt_of_le (by have := World.block_lt_of_cell? _ _ hw261_2; first | rwa [add_block] at this | exact this) GW262.out))) _).trans (((cell_far (p := ⟨gb262, _, none⟩) (by first | exact Nat.ne_of_lt (Nat.lt_of_lt_of_le (by have := World.block_lt_of_cell? _ _ hw261_2; first | rwa [add_block] at this | exact this) GW262.out) | (rw [add_block]; exact Nat.ne_of_lt (Nat.lt_of_lt_of_le (by have := World.block_lt_of_cell? _ _ hw261_2; first | rwa [add_block] at this | exact this) GW262.out)) | (show (Addr.add _ _).block ≠ _; rw [add_block]; exact Nat.ne_of_lt (Nat.lt_of_lt_of_le (by have := World.block_lt_of_cell? _ _ hw261_2; first | rwa [add_block] at this | exact this) GW262.out)) | (dsimp only; exact Nat.ne_of_lt (Nat.lt_of_lt_of_le (by have := World.block_lt_of_cell? _ _ hw261_2; first | rwa [add_block] at this | exact this) GW262.out))) _).trans (((cell_far (p := ⟨gb262, _, none⟩) (by first | exact Nat.ne_of_lt (Nat.lt_of_lt_of_le (by have := World.block_lt_of_cell? _ _ hw261_2; first | rwa [add_block] at this | exact this) GW262.out) | (rw [add_block]; exact Nat.ne_of_lt (Nat.lt_of_lt_of_le (by have := World.block_lt_of_cell? _ _ hw261_2; first | rwa [add_block] at this | exact this) GW262.out)) | (show (Addr.add _ _).block ≠ _; rw [add_block]; exact Nat.ne_of_lt (Nat.lt_of_lt_of_le (by have := World.block_lt_of_cell? _ _ hw261_2; first | rwa [add_block] at this | exact this) GW262.out)) | (dsimp only; exact Nat.ne_of_lt (Nat.lt_of_lt_of_le (by have := World.block_lt_of_cell? _ _ hw261_2; first | rwa [add_block] at this | exact this) GW262.out))) _).trans (hHeld.2.2.2.2.2.1)))))))))), ((cell_far (p := ⟨gb262, _, none⟩) (by first | exact Nat.ne_of_lt (Nat.lt_of_lt_of_le (by have := World.block_lt_of_cell? _ _ hw261_3; first | rwa [add_block] at this | exact this) GW262.out) | (rw [add_block]; exact Nat.ne_of_lt (Nat.lt_of_lt_of_le (by have := World.block_lt_of_cell? _ _ hw261_3; first | rwa [add_block] at this | exact this) GW262.out)) | (show (Addr.add _ _).block ≠ _; rw [add_block]; exact Nat.ne_of_lt (Nat.lt_of_lt_of_le (by have := World.block_lt_of_cell? _ _ hw261_3; first | rwa [add_block] at this | exact this) GW262.out)) | (dsimp only; exact Nat.ne_of_lt (Nat.lt_of_lt_of_le (by have := World.block_lt_of_cell? _ _ hw261_3; first | rwa [add_block] at this | exact this) GW262.out))) _).trans (((cell_far (p := ⟨gb262, _, none⟩) (by first | exact Nat.ne_of_lt (Nat.lt_of_lt_of_le (by have := World.block_lt_of_cell? _ _ hw261_3; first | rwa [add_block] at this | exact this) GW262.out) | (rw [add_block]; exact Nat.ne_of_lt (Nat.lt_of_lt_of_le (by have := World.block_lt_of_cell? _ _ hw261_3; first | rwa [add_block] at this | exact this) GW262.out)) | (show (Addr.add _ _).block ≠ _; rw [add_block]; exact Nat.ne_of_lt (Nat.lt_of_lt_of_le (by have := World.block_lt_of_cell? _ _ hw261_3; first | rwa [add_block] at this | exact this) GW262.out)) | (dsimp only; exact Nat.ne_of_lt (Nat.lt_of_lt_of_le (by have := World.block_lt_of_cell? _ _ hw261_3; first | rwa [add_block] at this | exact this) GW262.out))) _).trans (((cell_far (p := ⟨gb262, _, none⟩) (by first | exact Nat.ne_of_lt (Nat.lt_of_lt_of_le (by have := World.block_lt_of_cell? _ _ hw261_3; first | rwa [add_block] at this | exact this) GW262.out) | (rw [add_block]; exact Nat.ne_of_lt (Nat.lt_of_lt_of_le (by have := World.block_lt_of_cell? _ _ hw261_3; first | rwa [add_block] at this | exact this) GW262.out)) | (show (Addr.add _ _).block ≠ _; rw [add_block]; exact Nat.ne_of_lt (Nat.lt_of_lt_of_le (by have := World.block_lt_of_cell? _ _ hw261_3; first | rwa [add_block] at this | exact this) GW262.out)) | (dsimp only; exact Nat.ne_of_lt (Nat.lt_of_lt_of_le (by have := World.block_lt_of_cell? _ _ hw261_3; first | rwa [add_block] at this | exact this) GW262.out))) _).trans (((cell_far (p := ⟨gb262, _, none⟩) (by first | exact Nat.ne_of_lt (Nat.lt_of_lt_of_le (by have := World.block_lt_of_cell? _ _ hw261_3; first | rwa [add_block] at this | exact this) GW262.out) | (rw [add_block]; exact Nat.ne_of_lt (Nat.lt_of_lt_of_le (by have := World.block_lt_of_cell? _ _ hw261_3; first | rwa [add_block] at this | exact this) GW262.out)) | (show (Addr.add _ _).block ≠ _; rw [add_block]; exact Nat.ne_of_lt (Nat.lt_of_lt_of_le (by have := World.block_lt_of_cell? _ _ hw261_3; first | rwa [add_block] at this | exact this) GW262.out)) | (dsimp only; exact Nat.ne_of_lt (Nat.lt_of_lt_of_le (by have := World.block_lt_of_cell? _ _ hw261_3; first | rwa [add_block] at this | exact this) GW262.out))) _).trans (((cell_far (p := ⟨gb262, _, none⟩) (by first | exact Nat.ne_of_lt (Nat.lt_of_lt_of_le (by have := World.block_lt_of_cell? _ _ hw261_3; first | rwa [add_block] at this | exact this) GW262.out) | (rw [add_block]; exact Nat.ne_of_lt (Nat.lt_of_lt_of_le (by have := World.block_lt_of_cell? _ _ hw261_3; first | rwa [add_block] at this | exact this) GW262.out)) | (show (Addr.add _ _).block ≠ _; rw [add_block]; exact Nat.ne_of_lt (Nat.lt_of_lt_of_le (by have := World.block_lt_of_cell? _ _ hw261_3; first | rwa [add_block] at this | exact this) GW262.out)) | (dsimp only; exact Nat.ne_of_lt (Nat.lt_of_lt_of_le (by have := World.block_lt_of_cell? _ _ hw261_3; first | rwa [add_block] at this | exact this) GW262.out))) _).trans (hHeld.2.2.2.2.2.2.1)))))))))), ((cell_far (p := ⟨gb262, _, none⟩) (by first | exact Nat.ne_of_lt (Nat.lt_of_lt_of_le (by have := World.block_lt_of_cell? _ _ hw261_4; first | rwa [add_block] at this | exact this) GW262.out) | (rw [add_block]; exact Nat.ne_of_lt (Nat.lt_of_lt_of_le (by have := World.block_lt_of_cell? _ _ hw261_4; first | rwa [add_block] at this | exact this) GW262.out)) | (show (Addr.add _ _).block ≠ _; rw [add_block]; exact Nat.ne_of_lt (Nat.lt_of_lt_of_le (by have := World.block_lt_of_cell? _ _ hw261_4; first | rwa [add_block] at this | exact this) GW262.out)) | (dsimp only; exact Nat.ne_of_lt (Nat.lt_of_lt_of_le (by have := World.block_lt_of_cell? _ _ hw261_4; first | rwa [add_block] at this | exact this) GW262.out))) _).trans (((cell_far (p := ⟨gb262, _, none⟩) (by first | exact Nat.ne_of_lt (Nat.lt_of_lt_of_le (by have := World.block_lt_of_cell? _ _ hw261_4; first | rwa [add_block] at this | exact this) GW262.out) | (rw [add_block]; exact Nat.ne_of_lt (Nat.lt_of_lt_of_le (by have := World.block_lt_of_cell? _ _ hw261_4; first | rwa [add_block] at this | exact this) GW262.out)) | (show (Addr.add _ _).block ≠ _; rw [add_block]; exact Nat.ne_of_lt (Nat.lt_of_lt_of_le (by have := World.block_lt_of_cell? _ _ hw261_4; first | rwa [add_block] at this | exact this) GW262.out)) | (dsimp only; exact Nat.ne_of_lt (Nat.lt_of_lt_of_le (by have := World.block_lt_of_cell? _ _ hw261_4; first | rwa [add_block] at this | exact this) GW262.out))) _).trans (((cell_far (p := ⟨gb262, _, none⟩) (by first | exact Nat.ne_of_lt (Nat.lt_of_lt_of_le (by have := World.block_lt_of_cell? _ _ hw261_4; first | rwa [add_block] at this | exact this) GW262.out) | (rw [add_block]; exact Nat.ne_of_lt (Nat.lt_of_lt_of_le (by have := World.block_lt_of_cell? _ _ hw261_4; first | rwa [add_block] at this | exact this) GW262.out)) | (show (Addr.add _ _).block ≠ _; rw [add_block]; exact Nat.ne_of_lt (Nat.lt_of_lt_of_le (by have := World.block_lt_of_cell? _ _ hw261_4; first | rwa [add_block] at this | exact this) GW262.out)) | (dsimp only; exact Nat.ne_of_lt (Nat.lt_of_lt_of_le (by have := World.block_lt_of_cell? _ _ hw261_4; first | rwa [add_block] at this | exact this) GW262.out))) _).trans (((cell_far (p := ⟨gb262, _, none⟩) (by first | exact Nat.ne_of_lt (Nat.lt_of_lt_of_le (by have := World.block_lt_of_cell? _ _ hw261_4; first | rwa [add_block] at this | exact this) GW262.out) | (rw [add_block]; exact Nat.ne_of_lt (Nat.lt_of_lt_of_le (by have := World.block_lt_of_cell? _ _ hw261_4; first | rwa [add_block] at this | exact this) GW262.out)) | (show (Addr.add _ _).block ≠ _; rw [add_block]; exact Nat.ne_of_lt (Nat.lt_of_lt_of_le (by have := World.block_lt_of_cell? _ _ hw261_4; first | rwa [add_block] at this | exact this) GW262.out)) | (dsimp only; exact Nat.ne_of_lt (Nat.lt_of_lt_of_le (by have := World.block_lt_of_cell? _ _ hw261_4; first | rwa [add_block] at this | exact this) GW262.out))) _).trans (((cell_far (p := ⟨gb262, _, none⟩) (by first | exact Nat.ne_of_lt (Nat.lt_of_lt_of_le (by have := World.block_lt_of_cell? _ _ hw261_4; first | rwa [add_block] at this | exact this) GW262.out) | (rw [add_block]; exact Nat.ne_of_lt (Nat.lt_of_lt_of_le (by have := World.block_lt_of_cell? _ _ hw261_4; first | rwa [add_block] at this | exact this) GW262.out)) | (show (Addr.add _ _).block ≠ _; rw [add_block]; exact Nat.ne_of_lt (Nat.lt_of_lt_of_le (by have := World.block_lt_of_cell? _ _ hw261_4; first | rwa [add_block] at this | exact this) GW262.out)) | (dsimp only; exact Nat.ne_of_lt (Nat.lt_of_lt_of_le (by have := World.block_lt_of_cell? _ _ hw261_4; first | rwa [add_block] at this | exact this) GW262.out))) _).trans (hHeld.2.2.2.2.2.2.2))))))))))⟩ (fun hHeld => ?_)
   clear hK K
   refine done_ (done_of HT_.out (by kernel_rfl)) ?_
   have hnb31 := NB262_248.out
   have hnc31 := NB248_262.out
   obtain ⟨hcz32_0, hcz32_1, hcz32_2, hcz32_3, hcz32_4⟩ := Xc5 BK262
   obtain ⟨hfz32_0, hfz32_1, hfz32_2, hfz32_3, hfz32_4⟩ := Xf5 BK262
   go_upto_if 41 with (fail)
   have H := HC21.out
   clear HC21
   obtain ⟨c33, H⟩ | ⟨c33, H⟩ := Xiu H
   ·have c33b0 : decide ((l0.length : Int) < ((rd_T103 l1_2 t260).f1)) = true := decide_eq_true c33
    clear c33
    (first | rw [c33b0] | (simp only [i64_w, i32_w]; rw [c33b0]) | skip)
    obtain ⟨y263, hy263⟩ : ∃ y_ : List Int, y_ = (([] : List Int)) := ⟨_, rfl⟩
    replace H : (some (y263, 10)) = some (r1, r2) := by first | (rw [hy263]; with_reducible exact H) | (have H2_ := (Option.bind_some _ _).symm.trans H; rw [hy263]; with_reducible exact H2_) | (have H2_ := (Option.bind_some _ _).symm.trans H; with_reducible exact H2_) | with_reducible exact H | (rw [hy263]; exact H) | exact H
    have Ny263 := Aside0.mk hy263
    clear hy263
    simp only [Option.some.injEq, Prod.mk.injEq] at H
    obtain ⟨rfl, rfl⟩ := H
    go_wp2_with (first | ((with_reducible refine gate_dst (N := 42) rfl ?_); (try (refine gate_guard (by rfl) ?_; dsimp only)); refine Kd.R_lit (Kd.int .i64) _ 3 ?hg (N := 42) ?hd (xs := ([] : List Int)) (inner := []) (ok := fun _ => True) (okp := fun _ => True) ?hr ?hp (fun _ hk => hk) trivial (Below.refl _ _) (Nat.le_refl _) (by simp) ?_; (case hd => rfl); (case hg => rfl); (case hr => first | (go_simp; done) | (go_simp; rfl)); (case hp => exact (Reps.none _ _)); intro v264 w34 ho35 hb hg_ hnew_; clear hg_ hnew_; (first | rw [← Ny263.out] at ho35 | (simp only [Int.reduceToNat] at ho35; rw [← Ny263.out] at ho35)); have HO265 := Aside0.mk (Kd.R_lower ho35 (below_size Xi)); replace BK248 := Aside0.mk (blk_below (g := gb248) (o := .cells #[.int .i64 a1_0, .int .i64 a1_1, .slice (some ad261) l1_2.length c1_2] 65 (0, 0)) (by (with_reducible repeat (first | refine blk_drewN ?_ _ | refine blk_drew ?_ | refine blk_alloc ?_ _)); refine blk_far ?_ NB248_262.out _; (with_reducible repeat (first | refine blk_drewN ?_ _ | refine blk_drew ?_ | refine blk_alloc ?_ _)); refine blk_far ?_ NB248_262.out _; (with_reducible repeat (first | refine blk_drewN ?_ _ | refine blk_drew ?_ | refine blk_alloc ?_ _)); refine blk_far ?_ NB248_262.out _; (with_reducible repeat (first | refine blk_drewN ?_ _ | refine blk_drew ?_ | refine blk_alloc ?_ _)); refine blk_far ?_ NB248_262.out _; (with_reducible repeat (first | refine blk_drewN ?_ _ | refine blk_drew ?_ | refine blk_alloc ?_ _)); refine blk_far ?_ NB248_262.out _; (with_reducible repeat (first | refine blk_drewN ?_ _ | refine blk_drew ?_ | refine blk_alloc ?_ _)); exact BK248.out) hb); replace BK262 := Aside0.mk (blk_below (g := gb262) (o := .cells #[.int .i64 ((rd_T103 l1_2 t260).f0), .int .i64 ((rd_T103 l1_2 t260).f1), .int .i64 ((rd_T103 l1_2 t260).f2), .string ((rd_T103 l1_2 t260).f3), .slice A261_4 ((rd_T103 l1_2 t260).f4).length c261_4] 103 (0, 0)) (by (with_reducible repeat (first | refine blk_drewN ?_ _ | refine blk_drew ?_ | refine blk_alloc ?_ _)); refine blk_put (cs := #[.int .i64 ((rd_T103 l1_2 t260).f0), .int .i64 ((rd_T103 l1_2 t260).f1), .int .i64 ((rd_T103 l1_2 t260).f2), .string ((rd_T103 l1_2 t260).f3), .slice none 0 0]) ?_ 4 _ rfl; (with_reducible repeat (first | refine blk_drewN ?_ _ | refine blk_drew ?_ | refine blk_alloc ?_ _)); refine blk_put (cs := #[.int .i64 ((rd_T103 l1_2 t260).f0), .int .i64 ((rd_T103 l1_2 t260).f1), .int .i64 ((rd_T103 l1_2 t260).f2), .string (⟨#[]⟩ : ByteArray), .slice none 0 0]) ?_ 3 _ rfl; (with_reducible repeat (first | refine blk_drewN ?_ _ | refine blk_drew ?_ | refine blk_alloc ?_ _)); refine blk_put (cs := #[.int .i64 ((rd_T103 l1_2 t260).f0), .int .i64 ((rd_T103 l1_2 t260).f1), .int .i64 0, .string (⟨#[]⟩ : ByteArray), .slice none 0 0]) ?_ 2 _ rfl; (with_reducible repeat (first | refine blk_drewN ?_ _ | refine blk_drew ?_ | refine blk_alloc ?_ _)); refine blk_put (cs := #[.int .i64 ((rd_T103 l1_2 t260).f0), .int .i64 0, .int .i64 0, .string (⟨#[]⟩ : ByteArray), .slice none 0 0]) ?_ 1 _ rfl; (with_reducible repeat (first | refine blk_drewN ?_ _ | refine blk_drew ?_ | refine blk_alloc ?_ _)); refine blk_put (cs := #[.int .i64 0, .int .i64 0, .int .i64 0, .string (⟨#[]⟩ : ByteArray), .slice none 0 0]) ?_ 0 _ rfl; (with_reducible repeat (first | refine blk_drewN ?_ _ | refine blk_drew ?_ | refine blk_alloc ?_ _)); exact BK262.out) hb); replace HB := Aside0.mk (below_step Xi hb); clear hb ho35))
    go_ret2
    exact ⟨_, Xe, Xq HO265, Xi⟩
   have c33b0 : decide ((l0.length : Int) < ((rd_T103 l1_2 t260).f1)) = false := decide_eq_false c33
   clear c33
   (first | rw [c33b0] | (simp only [i64_w, i32_w]; rw [c33b0]) | skip)
   obtain ⟨y266, hy266⟩ : ∃ y_ : List Int, y_ = (([] : List Int)) := ⟨_, rfl⟩
   replace H : ((spec_l05Kids.f k a1_0 a1_1 l1_2 ((rd_T103 l1_2 t260).f0) ((rd_T103 l1_2 t260).f1) ((rd_T103 l1_2 t260).f2) ((rd_T103 l1_2 t260).f3) ((rd_T103 l1_2 t260).f4)).bind fun t269 => (spec_MayInsert.l0 k l0 y266 t269 1 ((rd_T103 l1_2 t260).f0) ((rd_T103 l1_2 t260).f1) ((rd_T103 l1_2 t260).f2) ((rd_T103 l1_2 t260).f3) ((rd_T103 l1_2 t260).f4))) = some (r1, r2) := by first | (rw [hy266]; with_reducible exact H) | (have H2_ := (Option.bind_some _ _).symm.trans H; rw [hy266]; with_reducible exact H2_) | (have H2_ := (Option.bind_some _ _).symm.trans H; with_reducible exact H2_) | with_reducible exact H | (rw [hy266]; exact H) | exact H
   have Ny266 := Aside0.mk hy266
   clear hy266
   obtain ⟨t269, A36, H⟩ := Xbi H
   (try dsimp only at H)
   have H' := Aside0.mk H
   clear H
   go_wp2_with (first | ((with_reducible refine gate_dst (N := 43) rfl ?_); (try (refine gate_guard (by rfl) ?_; dsimp only)); refine Kd.R_lit (Kd.int .i64) _ 3 ?hg (N := 43) ?hd (xs := ([] : List Int)) (inner := []) (ok := fun _ => True) (okp := fun _ => True) ?hr ?hp (fun _ hk => hk) trivial (Below.refl _ _) (Nat.le_refl _) (by simp) ?_; (case hd => rfl); (case hg => rfl); (case hr => first | (go_simp; done) | (go_simp; rfl)); (case hp => exact (Reps.none _ _)); intro v267 w37 ho38 hb hg_ hnew_; clear hg_ hnew_; (first | rw [← Ny266.out] at ho38 | (simp only [Int.reduceToNat] at ho38; rw [← Ny266.out] at ho38)); have HO268 := Aside0.mk (Kd.R_lower ho38 (below_size Xi)); replace BK248 := Aside0.mk (blk_below (g := gb248) (o := .cells #[.int .i64 a1_0, .int .i64 a1_1, .slice (some ad261) l1_2.length c1_2] 65 (0, 0)) (by (with_reducible repeat (first | refine blk_drewN ?_ _ | refine blk_drew ?_ | refine blk_alloc ?_ _)); refine blk_far ?_ NB248_262.out _; (with_reducible repeat (first | refine blk_drewN ?_ _ | refine blk_drew ?_ | refine blk_alloc ?_ _)); refine blk_far ?_ NB248_262.out _; (with_reducible repeat (first | refine blk_drewN ?_ _ | refine blk_drew ?_ | refine blk_alloc ?_ _)); refine blk_far ?_ NB248_262.out _; (with_reducible repeat (first | refine blk_drewN ?_ _ | refine blk_drew ?_ | refine blk_alloc ?_ _)); refine blk_far ?_ NB248_262.out _; (with_reducible repeat (first | refine blk_drewN ?_ _ | refine blk_drew ?_ | refine blk_alloc ?_ _)); refine blk_far ?_ NB248_262.out _; (with_reducible repeat (first | refine blk_drewN ?_ _ | refine blk_drew ?_ | refine blk_alloc ?_ _)); exact BK248.out) hb); replace BK262 := Aside0.mk (blk_below (g := gb262) (o := .cells #[.int .i64 ((rd_T103 l1_2 t260).f0), .int .i64 ((rd_T103 l1_2 t260).f1), .int .i64 ((rd_T103 l1_2 t260).f2), .string ((rd_T103 l1_2 t260).f3), .slice A261_4 ((rd_T103 l1_2 t260).f4).length c261_4] 103 (0, 0)) (by (with_reducible repeat (first | refine blk_drewN ?_ _ | refine blk_drew ?_ | refine blk_alloc ?_ _)); refine blk_put (cs := #[.int .i64 ((rd_T103 l1_2 t260).f0), .int .i64 ((rd_T103 l1_2 t260).f1), .int .i64 ((rd_T103 l1_2 t260).f2), .string ((rd_T103 l1_2 t260).f3), .slice none 0 0]) ?_ 4 _ rfl; (with_reducible repeat (first | refine blk_drewN ?_ _ | refine blk_drew ?_ | refine blk_alloc ?_ _)); refine blk_put (cs := #[.int .i64 ((rd_T103 l1_2 t260).f0), .int .i64 ((rd_T103 l1_2 t260).f1), .int .i64 ((rd_T103 l1_2 t260).f2), .string (⟨#[]⟩ : ByteArray), .slice none 0 0]) ?_ 3 _ rfl; (with_reducible repeat (first | refine blk_drewN ?_ _ | refine blk_drew ?_ | refine blk_alloc ?_ _)); refine blk_put (cs := #[.int .i64 ((rd_T103 l1_2 t260).f0), .int .i64 ((rd_T103 l1_2 t260).f1), .int .i64 0, .string (⟨#[]⟩ : ByteArray), .slice none 0 0]) ?_ 2 _ rfl; (with_reducible repeat (first | refine blk_drewN ?_ _ | refine blk_drew ?_ | refine blk_alloc ?_ _)); refine blk_put (cs := #[.int .i64 ((rd_T103 l1_2 t260).f0), .int .i64 0, .int .i64 0, .string (⟨#[]⟩ : ByteArray), .slice none 0 0]) ?_ 1 _ rfl; (with_reducible repeat (first | refine blk_drewN ?_ _ | refine blk_drew ?_ | refine blk_alloc ?_ _)); refine blk_put (cs := #[.int .i64 0, .int .i64 0, .int .i64 0, .string (⟨#[]⟩ : ByteArray), .slice none 0 0]) ?_ 0 _ rfl; (with_reducible repeat (first | refine blk_drewN ?_ _ | refine blk_drew ?_ | refine blk_alloc ?_ _)); exact BK262.out) hb); replace HB := Aside0.mk (below_step Xi hb); clear hb ho38; have hnb39 := NB248_262.out; have hnc39 := NB262_248.out; obtain ⟨hcz40_0, hcz40_1, hcz40_2⟩ := Xc3 BK248; obtain ⟨hfz40_0, hfz40_1, hfz40_2⟩ := Xf3 BK248; obtain ⟨hcz41_0, hcz41_1, hcz41_2, hcz41_3, hcz41_4⟩ := Xc5 BK262; obtain ⟨hfz41_0, hfz41_1, hfz41_2, hfz41_3, hfz41_4⟩ := Xf5 BK262) | ((with_reducible refine gate_callee (f := 76) rfl ?_); refine Xgo 46 Try.func76 #[.agg #[.int .i64 a1_0, .int .i64 a1_1, .slice (some ad261) l1_2.length c1_2], .agg #[.int .i64 ((rd_T103 l1_2 t260).f0), .int .i64 ((rd_T103 l1_2 t260).f1), .int .i64 ((rd_T103 l1_2 t260).f2), .string ((rd_T103 l1_2 t260).f3), .slice A261_4 ((rd_T103 l1_2 t260).f4).length c261_4]] ?_; (with_reducible refine (spec_l05Kids.calls k a1_0 a1_1 _ _ l1_2 ((rd_T103 l1_2 t260).f0) ((rd_T103 l1_2 t260).f1) ((rd_T103 l1_2 t260).f2) ((rd_T103 l1_2 t260).f3) _ _ ((rd_T103 l1_2 t260).f4) t269 _ ?side1 ?side2 ?side3 ?side4 A36.out).mono ?_); (case side1 => exact Xc HR1_2); (case side2 => exact HC1_2.out); (case side3 => exact Xc HR261_4); (case side4 => exact HC261_4.out); rintro e w42 ⟨v270, rfl, ho0, hb⟩; refine ⟨_, rfl, ?_⟩; have HO271 := Aside0.mk (Kd.R_lower (Kd.R_new' ho0 (Kd.R_lt (Xq HO268))) (below_size Xi)); replace HO268 := Aside0.mk (Kd.R_elder' (Xq HO268) (Kd.R_base ho0) hb); replace BK248 := Xbb BK248 hb; replace BK262 := Xbb BK262 hb; replace HB := Aside0.mk (below_step Xi hb); clear hb; (try clear ho0)))
   go_loopg [10, 12] k (fun kq v10 v12 w' => ∃ (x10_1 : List Int) (x12_1 : Int), v12 = .int .i64 x12_1 ∧ Aside0 (spec_MayInsert.l0 kq l0 x10_1 t269 x12_1 ((rd_T103 l1_2 t260).f0) ((rd_T103 l1_2 t260).f1) ((rd_T103 l1_2 t260).f2) ((rd_T103 l1_2 t260).f3) ((rd_T103 l1_2 t260).f4) = some (r1, r2)) ∧ Aside0 (kq ≤ k) ∧ Aside0 (Kd.R (Kd.int .i64) 3 w' w.heap.size (fun k_ => some k_ ≠ (v270 : Value).ownBlock) v10 x10_1) ∧ Aside0 (Kd.R (Kd.int .i64) 3 w' w.heap.size (fun k_ => some k_ ≠ (v10 : Value).ownBlock) v270 t269) ∧ Aside0 (w'.heap[gb248]? = some (.cells #[.int .i64 a1_0, .int .i64 a1_1, (.slice (some ad261) l1_2.length c1_2)] 65 (0, 0))) ∧ Aside0 (w'.heap[gb262]? = some (.cells #[.int .i64 ((rd_T103 l1_2 t260).f0), .int .i64 ((rd_T103 l1_2 t260).f1), .int .i64 ((rd_T103 l1_2 t260).f2), .string ((rd_T103 l1_2 t260).f3), (.slice A261_4 ((rd_T103 l1_2 t260).f4).length c261_4)] 103 (0, 0))) ∧ Aside0 (Below w.heap.size w w'))
   case atStart => exact ⟨(y266), (1), Xr, H', Xkr, ⟨by (with_reducible repeat (first | apply Kd.R_alloc | apply Kd.R_drewN | apply Kd.R_drew)); exact Kd.R_mono HO268.out (fun _ hk => hk.2)⟩, ⟨by (with_reducible repeat (first | apply Kd.R_alloc | apply Kd.R_drewN | apply Kd.R_drew)); exact Kd.R_mono HO271.out (fun _ hk => hk.2)⟩, (Xp BK248), (Xp BK262), ⟨Xi⟩⟩
   clear H'
   (try clear c6); (try clear c6b0); (try clear c6b1); (try clear c12); (try clear c17); (try clear c17b0); (try clear c17b1); (try clear c19); (try clear c19b0); (try clear c20); (try clear c20b0); (try clear c33); (try clear c33b0); (try clear hcz15_0); (try clear hcz15_1); (try clear hcz15_2); (try clear hcz32_0); (try clear hcz32_1); (try clear hcz32_2); (try clear hcz32_3); (try clear hcz32_4); (try clear hcz40_0); (try clear hcz40_1); (try clear hcz40_2); (try clear hcz41_0); (try clear hcz41_1); (try clear hcz41_2); (try clear hcz41_3); (try clear hcz41_4); (try clear hfz15_0); (try clear hfz15_1); (try clear hfz15_2); (try clear hfz32_0); (try clear hfz32_1); (try clear hfz32_2); (try clear hfz32_3); (try clear hfz32_4); (try clear hfz40_0); (try clear hfz40_1); (try clear hfz40_2); (try clear hfz41_0); (try clear hfz41_1); (try clear hfz41_2); (try clear hfz41_3); (try clear hfz41_4); (try clear hx261_0); (try clear hx261_1); (try clear hx261_2); (try clear hx261_3); (try clear hx261_4); (try clear p261); (try clear q261)
   obtain ⟨x10_1, x12_1, rfl, HA, HK1, HO_10, HO_11, BK248, BK262, HB⟩ := hrel
   cases gk with | zero => cases HA.out | succ k1 => ?_
   have H := HA.out
   clear HA
   simp only [spec_MayInsert.l0] at H
   have HC43 := Aside0.mk H
   clear H
   go_upto_region 14 with (fail)
   go_cut [65] (fun v65 wc => ∃ (kq : Nat) (x65_42 : Bool), v65 = .bool x65_42 ∧ Aside0 (spec_MayInsert.j1 kq l0 x10_1 t269 x12_1 x65_42 ((rd_T103 l1_2 t260).f0) ((rd_T103 l1_2 t260).f1) ((rd_T103 l1_2 t260).f2) ((rd_T103 l1_2 t260).f3) ((rd_T103 l1_2 t260).f4) = some (r1, r2)) ∧ Aside0 (kq ≤ k1) ∧ Aside0 (Kd.R (Kd.int .i64) 3 wc w.heap.size (fun k_ => some k_ ≠ (v270 : Value).ownBlock) u10 x10_1) ∧ Aside0 (Kd.R (Kd.int .i64) 3 wc w.heap.size (fun k_ => some k_ ≠ (u10 : Value).ownBlock) v270 t269) ∧ Aside0 (wc.heap[gb248]? = some (.cells #[.int .i64 a1_0, .int .i64 a1_1, (.slice (some ad261) l1_2.length c1_2)] 65 (0, 0))) ∧ Aside0 (wc.heap[gb262]? = some (.cells #[.int .i64 ((rd_T103 l1_2 t260).f0), .int .i64 ((rd_T103 l1_2 t260).f1), .int .i64 ((rd_T103 l1_2 t260).f2), .string ((rd_T103 l1_2 t260).f3), (.slice A261_4 ((rd_T103 l1_2 t260).f4).length c261_4)] 103 (0, 0))) ∧ Aside0 (Below w.heap.size w wc))
   case first =>
    have H := HC43.out
    clear HC43
    obtain ⟨c44b0, H⟩ | ⟨c44b0, H⟩ := Xit H
    ·(first | rw [c44b0] | (simp only [i64_w, i32_w]; rw [c44b0]) | skip)
     obtain ⟨ji45, hji45⟩ : ∃ j_ : Int, (wrap64 (((rd_T103 l1_2 t260).f1) - 1)) = j_ := ⟨_, rfl⟩
     replace H : (if 0 ≤ (ji45) then (if (ji45) < (l0.length : Int) then (if (rd_T97 l0 (ji45)).f1 = true then (spec_MayInsert.j1 k1 l0 x10_1 t269 x12_1 false ((rd_T103 l1_2 t260).f0) ((rd_T103 l1_2 t260).f1) ((rd_T103 l1_2 t260).f2) ((rd_T103 l1_2 t260).f3) ((rd_T103 l1_2 t260).f4)) else (spec_MayInsert.j1 k1 l0 x10_1 t269 x12_1 (decide ((t269.length : Int) < 12)) ((rd_T103 l1_2 t260).f0) ((rd_T103 l1_2 t260).f1) ((rd_T103 l1_2 t260).f2) ((rd_T103 l1_2 t260).f3) ((rd_T103 l1_2 t260).f4))) else (none)) else (none)) = some (r1, r2) := by first | (rw [hji45] at H; exact H) | (simp only [hji45] at H ⊢; exact H)
     have hji45w : (IntKind.i64.wrap (((rd_T103 l1_2 t260).f1) - 1)) = ji45 := (i64_w _).trans hji45
     obtain ⟨c46b0, H⟩ := Xid H
     obtain ⟨c47b0, H⟩ := Xid H
     obtain ⟨bq48, hbq48⟩ : ∃ b_ : Bool, b_ = ((rd_T97 l0 (ji45)).f1) := ⟨_, rfl⟩
     replace H : (if bq48 = true then (spec_MayInsert.j1 k1 l0 x10_1 t269 x12_1 false ((rd_T103 l1_2 t260).f0) ((rd_T103 l1_2 t260).f1) ((rd_T103 l1_2 t260).f2) ((rd_T103 l1_2 t260).f3) ((rd_T103 l1_2 t260).f4)) else (spec_MayInsert.j1 k1 l0 x10_1 t269 x12_1 (decide ((t269.length : Int) < 12)) ((rd_T103 l1_2 t260).f0) ((rd_T103 l1_2 t260).f1) ((rd_T103 l1_2 t260).f2) ((rd_T103 l1_2 t260).f3) ((rd_T103 l1_2 t260).f4))) = some (r1, r2) := by rw [← hbq48] at H; exact H
     have Nbq48 := Aside0.mk hbq48
     clear hbq48
     by_cases c49 : bq48 = true
     ·subst c49
      (first | rw [if_pos rfl] at H | skip)
      have H' := Aside0.mk H
      clear H
      have hnb50 := NB262_248.out
      have hnc50 := NB248_262.out
      obtain ⟨hcz51_0, hcz51_1, hcz51_2, hcz51_3, hcz51_4⟩ := Xc5 BK262
      obtain ⟨hfz51_0, hfz51_1, hfz51_2, hfz51_3, hfz51_4⟩ := Xf5 BK262
      have p272 : 0 ≤ ((ji45) : Int) := of_decide_eq_true Xa
      have q272 : (ji45) < (l0.length : Int) := of_decide_eq_true Xa
      obtain ⟨ad272, A272_2, c272_2, e272, hx272_0, hx272_1, hx272_2, hl272_2, hi272_2⟩ := at_T97 HR0.out (ji45) p272 q272
      (try rw [← Nbq48.out] at hx272_1)
      cases e272
      replace hx272_0 := Xm HB hx272_0
      replace hx272_1 := Xm HB hx272_1
      replace hx272_2 := Xm HB hx272_2
      have HR272_2 := Aside0.mk hi272_2
      have HC272_2 := Aside0.mk hl272_2
      clear hi272_2 hl272_2
      replace p272 := eq_true p272
      replace q272 := eq_true q272
      go_wp2
      go_meet
      case rel => exact ⟨_, (false), Xr, H', ⟨by have := HK1.out; first | omega | exact Nat.le_refl _⟩, (Xp' HO_10), (Xp' HO_11), (Xp BK248), (Xp BK262), ⟨Xi⟩⟩
     replace c49 := Bool.eq_false_iff.mpr c49
     subst c49
     (first | rw [if_neg (show ¬ (false = true) by decide)] at H | skip)
     have H' := Aside0.mk H
     clear H
     have hnb52 := NB262_248.out
     have hnc52 := NB248_262.out
     obtain ⟨hcz53_0, hcz53_1, hcz53_2, hcz53_3, hcz53_4⟩ := Xc5 BK262
     obtain ⟨hfz53_0, hfz53_1, hfz53_2, hfz53_3, hfz53_4⟩ := Xf5 BK262
     have p272 : 0 ≤ ((ji45) : Int) := of_decide_eq_true Xa
     have q272 : (ji45) < (l0.length : Int) := of_decide_eq_true Xa
     obtain ⟨ad272, A272_2, c272_2, e272, hx272_0, hx272_1, hx272_2, hl272_2, hi272_2⟩ := at_T97 HR0.out (ji45) p272 q272
     (try rw [← Nbq48.out] at hx272_1)
     cases e272
     replace hx272_0 := Xm HB hx272_0
     replace hx272_1 := Xm HB hx272_1
     replace hx272_2 := Xm HB hx272_2
     have HR272_2 := Aside0.mk hi272_2
     have HC272_2 := Aside0.mk hl272_2
     clear hi272_2 hl272_2
     replace p272 := eq_true p272
     replace q272 := eq_true q272
     obtain ⟨Ao54, co54, eo54⟩ := Kd.R_slice HO_11.out
     subst eo54
     go_wp2
     go_meet
     case rel => exact ⟨_, (decide ((t269.length : Int) < 12)), Xr, H', ⟨by have := HK1.out; first | omega | exact Nat.le_refl _⟩, (Xp' HO_10), (Xp' HO_11), (Xp BK248), (Xp BK262), ⟨Xi⟩⟩
    (first | rw [c44b0] | (simp only [i64_w, i32_w]; rw [c44b0]) | skip)
    have H' := Aside0.mk H
    clear H
    go_wp2
    go_meet
    case rel => exact ⟨_, (false), Xr, H', ⟨by have := HK1.out; first | omega | exact Nat.le_refl _⟩, (Xp' HO_10), (Xp' HO_11), (Xp BK248), (Xp BK262), ⟨Xi⟩⟩
   clear HC43
   (try clear c6); (try clear c6b0); (try clear c6b1); (try clear c12); (try clear c17); (try clear c17b0); (try clear c17b1); (try clear c19); (try clear c19b0); (try clear c20); (try clear c20b0); (try clear c33); (try clear c33b0); (try clear hcz15_0); (try clear hcz15_1); (try clear hcz15_2); (try clear hcz32_0); (try clear hcz32_1); (try clear hcz32_2); (try clear hcz32_3); (try clear hcz32_4); (try clear hcz40_0); (try clear hcz40_1); (try clear hcz40_2); (try clear hcz41_0); (try clear hcz41_1); (try clear hcz41_2); (try clear hcz41_3); (try clear hcz41_4); (try clear hfz15_0); (try clear hfz15_1); (try clear hfz15_2); (try clear hfz32_0); (try clear hfz32_1); (try clear hfz32_2); (try clear hfz32_3); (try clear hfz32_4); (try clear hfz40_0); (try clear hfz40_1); (try clear hfz40_2); (try clear hfz41_0); (try clear hfz41_1); (try clear hfz41_2); (try clear hfz41_3); (try clear hfz41_4); (try clear hx261_0); (try clear hx261_1); (try clear hx261_2); (try clear hx261_3); (try clear hx261_4); (try clear p261); (try clear q261)
   obtain ⟨kq, x65_42, rfl, HA, HJ42, HO_10, HO_11, BK248, BK262, HB⟩ := hcut
   cases kq with | zero => cases HA.out | succ kj42 => ?_
   have H := HA.out
   clear HA
   simp only [spec_MayInsert.j1] at H
   by_cases c55 : x65_42 = true
   ·subst c55
    (first | rw [if_pos rfl] at H | skip)
    have H' := Aside0.mk H
    clear H
    go_wp2
    go_loopg [13, 14] kj42 (fun kq v13 v14 w' => ∃ (x13_3 : Bool) (x14_3 : Int), v13 = .bool x13_3 ∧ v14 = .int .i64 x14_3 ∧ Aside0 (spec_MayInsert.l1 kq l0 x10_1 t269 x12_1 x13_3 x14_3 ((rd_T103 l1_2 t260).f0) ((rd_T103 l1_2 t260).f1) ((rd_T103 l1_2 t260).f2) ((rd_T103 l1_2 t260).f3) ((rd_T103 l1_2 t260).f4) = some (r1, r2)) ∧ Aside0 (kq ≤ kj42) ∧ Aside0 (Kd.R (Kd.int .i64) 3 w' w.heap.size (fun k_ => some k_ ≠ (v270 : Value).ownBlock) u10 x10_1) ∧ Aside0 (Kd.R (Kd.int .i64) 3 w' w.heap.size (fun k_ => some k_ ≠ (u10 : Value).ownBlock) v270 t269) ∧ Aside0 (w'.heap[gb248]? = some (.cells #[.int .i64 a1_0, .int .i64 a1_1, (.slice (some ad261) l1_2.length c1_2)] 65 (0, 0))) ∧ Aside0 (w'.heap[gb262]? = some (.cells #[.int .i64 ((rd_T103 l1_2 t260).f0), .int .i64 ((rd_T103 l1_2 t260).f1), .int .i64 ((rd_T103 l1_2 t260).f2), .string ((rd_T103 l1_2 t260).f3), (.slice A261_4 ((rd_T103 l1_2 t260).f4).length c261_4)] 103 (0, 0))) ∧ Aside0 (Below w.heap.size w w'))
    case atStart => exact ⟨(false), (0), Xr, Xr, H', Xkr, (Xp' HO_10), (Xp' HO_11), (Xp BK248), (Xp BK262), ⟨Xi⟩⟩
    clear H'
    (try clear c6); (try clear c6b0); (try clear c6b1); (try clear c12); (try clear c17); (try clear c17b0); (try clear c17b1); (try clear c19); (try clear c19b0); (try clear c20); (try clear c20b0); (try clear c33); (try clear c33b0); (try clear c55); (try clear hcz15_0); (try clear hcz15_1); (try clear hcz15_2); (try clear hcz32_0); (try clear hcz32_1); (try clear hcz32_2); (try clear hcz32_3); (try clear hcz32_4); (try clear hcz40_0); (try clear hcz40_1); (try clear hcz40_2); (try clear hcz41_0); (try clear hcz41_1); (try clear hcz41_2); (try clear hcz41_3); (try clear hcz41_4); (try clear hfz15_0); (try clear hfz15_1); (try clear hfz15_2); (try clear hfz32_0); (try clear hfz32_1); (try clear hfz32_2); (try clear hfz32_3); (try clear hfz32_4); (try clear hfz40_0); (try clear hfz40_1); (try clear hfz40_2); (try clear hfz41_0); (try clear hfz41_1); (try clear hfz41_2); (try clear hfz41_3); (try clear hfz41_4); (try clear hx261_0); (try clear hx261_1); (try clear hx261_2); (try clear hx261_3); (try clear hx261_4); (try clear p261); (try clear q261)
    obtain ⟨x13_3, x14_3, rfl, rfl, HA, HK3, HO_10, HO_11, BK248, BK262, HB⟩ := hrel
    cases gk with | zero => cases HA.out | succ k3 => ?_
    have H := HA.out
    clear HA
    simp only [spec_MayInsert.l1] at H
    obtain ⟨c56b0, H⟩ | ⟨c56b0, H⟩ := Xit H
    ·by_cases c57 : x13_3 = true
     ·subst c57
      (first | rw [if_pos rfl] at H | skip)
      have H' := Aside0.mk H
      clear H
      obtain ⟨Ao58, co58, eo58⟩ := Kd.R_slice HO_11.out
      subst eo58
      try go_wp2_with (fail)
      replace HO_10 := Aside0.mk (Kd.R_drew HO_10.out)
      replace HO_11 := Aside0.mk (Kd.R_drew HO_11.out)
      replace BK248 := Aside0.mk (blk_drew BK248.out)
      replace BK262 := Aside0.mk (blk_drew BK262.out)
      replace HB := Aside0.mk (below_drew1 HB.out)
      refine start_ (n := 24) (S := fun w' => True) (ds := []) #[false, false, false, false, false, false, false, false, false, false, false, false, false, false, false, false, false, false, false, false, false, false, false, false] (by kernel_rfl) rfl rfl trivial (fun hHeld => ?_); refine with_tabW spec_MayInsert.tab20 spec_MayInsert.bits20 (fun HT_ HW_ => ?_)
      generalize wr.drew = w59 at HO_10 HO_11 BK248 BK262 HB hHeld ⊢
      refine Xpu 0 74 (XW.bs 24 1) HT_.out ?_
      refine Xpu 1 75 (XW.bs 24 3) HT_.out ?_
      refine Xpn 2 76 (XW.bs 24 7) HT_.out ?_
      refine Xpn 3 77 (XW.bs 24 15) HT_.out ?_
      refine Xpn 4 78 (XW.bs 24 31) HT_.out ?_
      refine Xpn 5 79 (XW.bs 24 63) HT_.out ?_
      refine Xpn 6 80 (XW.bs 24 127) HT_.out ?_
      refine Xpn 7 81 (XW.bs 24 255) HT_.out ?_
      refine Xpn 8 82 (XW.bs 24 511) HT_.out ?_
      refine Xpn 9 83 (XW.bs 24 1023) HT_.out ?_
      refine Xpn 10 84 (XW.bs 24 2047) HT_.out ?_
      refine Xpn 11 85 (XW.bs 24 4095) HT_.out ?_
      refine Xpn 12 86 (XW.bs 24 8191) HT_.out ?_
      refine Xpn 13 87 (XW.bs 24 16383) HT_.out ?_
      refine Xpn 14 88 (XW.bs 24 32767) HT_.out ?_
      refine Xpn 15 89 (XW.bs 24 65535) HT_.out ?_
      refine Xpn 16 90 (XW.bs 24 131071) HT_.out ?_
      refine Xpn 17 91 (XW.bs 24 262143) HT_.out ?_
      refine Xpn 18 92 (XW.bs 24 524287) HT_.out ?_
      refine Xpn 19 93 (XW.bs 24 1048575) HT_.out ?_
      refine Xpn 20 94 (XW.bs 24 2097151) HT_.out ?_
      refine Xpn 21 95 (XW.bs 24 4194303) HT_.out ?_
      refine Xpu 22 96 (XW.bs 24 8388607) HT_.out ?_
      refine Xpu 23 13 (XW.bs 24 16777215) HT_.out ?_
      refine done_ (done_of HT_.out (by kernel_rfl)) ?_
      try go_wp2_with (fail)
      go_roundg k3
      case measure => have := HK1.out; have := HJ42.out; have := HK3.out; omega
      case rel => exact ⟨(true), (wrap64 (x14_3 + 1)), Xr, Xr, H', ⟨by have := HK1.out; have := HJ42.out; have := HK3.out; omega⟩, (Xp' HO_10), (Xp' HO_11), (Xp BK248), (Xp BK262), ⟨Xi⟩⟩
     replace c57 := Bool.eq_false_iff.mpr c57
     subst c57
     (first | rw [if_neg (show ¬ (false = true) by decide)] at H | skip)
     obtain ⟨ji60, hji60⟩ : ∃ j_ : Int, (wrap64 (((rd_T103 l1_2 t260).f1) - 1)) = j_ := ⟨_, rfl⟩
     replace H : (if 0 ≤ (ji60) then (if (ji60) < (l0.length : Int) then ((some (([] : List Int) : List Int)).bind fun y274 => (if 0 ≤ x14_3 then ((some (t269.take (x14_3 : Int).toNat : List Int)).bind fun y277 => (if y274.length + y277.length < 17592186044416 then ((some (y274 ++ y277 : List Int)).bind fun y282 => ((some (([x12_1] : List Int) : List Int)).bind fun y285 => (if y282.length + y285.length < 17592186044416 then ((some (y282 ++ y285 : List Int)).bind fun y288 => ((some (t269.drop (x14_3 : Int).toNat : List Int)).bind fun y291 => (if y288.length + y291.length < 17592186044416 then ((spec_l03Match.f k3 ((rd_T97 l0 (ji60)).f2) (y288 ++ y291)).bind fun t299 => (spec_MayInsert.l1 k3 l0 x10_1 t269 x12_1 t299 (wrap64 (x14_3 + 1)) ((rd_T103 l1_2 t260).f0) ((rd_T103 l1_2 t260).f1) ((rd_T103 l1_2 t260).f2) ((rd_T103 l1_2 t260).f3) ((rd_T103 l1_2 t260).f4))) else (none)))) else (none)))) else (none))) else (none))) else (none)) else (none)) = some (r1, r2) := by first | (rw [hji60] at H; exact H) | (simp only [hji60] at H ⊢; exact H)
     have hji60w : (IntKind.i64.wrap (((rd_T103 l1_2 t260).f1) - 1)) = ji60 := (i64_w _).trans hji60
     obtain ⟨c61b0, H⟩ := Xid H
     obtain ⟨c62b0, H⟩ := Xid H
     obtain ⟨y274, hy274⟩ : ∃ y_ : List Int, y_ = (([] : List Int)) := ⟨_, rfl⟩
     replace H : (if 0 ≤ x14_3 then ((some (t269.take (x14_3 : Int).toNat : List Int)).bind fun y277 => (if y274.length + y277.length < 17592186044416 then ((some (y274 ++ y277 : List Int)).bind fun y282 => ((some (([x12_1] : List Int) : List Int)).bind fun y285 => (if y282.length + y285.length < 17592186044416 then ((some (y282 ++ y285 : List Int)).bind fun y288 => ((some (t269.drop (x14_3 : Int).toNat : List Int)).bind fun y291 => (if y288.length + y291.length < 17592186044416 then ((spec_l03Match.f k3 ((rd_T97 l0 (ji60)).f2) (y288 ++ y291)).bind fun t299 => (spec_MayInsert.l1 k3 l0 x10_1 t269 x12_1 t299 (wrap64 (x14_3 + 1)) ((rd_T103 l1_2 t260).f0) ((rd_T103 l1_2 t260).f1) ((rd_T103 l1_2 t260).f2) ((rd_T103 l1_2 t260).f3) ((rd_T103 l1_2 t260).f4))) else (none)))) else (none)))) else (none))) else (none)) = some (r1, r2) := by first | (rw [hy274]; with_reducible exact H) | (have H2_ := (Option.bind_some _ _).symm.trans H; rw [hy274]; with_reducible exact H2_) | (have H2_ := (Option.bind_some _ _).symm.trans H; with_reducible exact H2_) | with_reducible exact H | (rw [hy274]; exact H) | exact H
     have Ny274 := Aside0.mk hy274
     clear hy274
     obtain ⟨c63, H⟩ := Xif H
     have c63b0 := eq_true c63
     have c63b1 : decide (0 ≤ x14_3) = true := decide_eq_true c63
     clear c63
     have c64b0 := eq_true (of_decide_eq_true Xa : x14_3 ≤ (t269.length : Int))
     obtain ⟨y277, hy277⟩ : ∃ y_ : List Int, y_ = (t269.take (x14_3 : Int).toNat) := ⟨_, rfl⟩
     replace H : (if y274.length + y277.length < 17592186044416 then ((some (y274 ++ y277 : List Int)).bind fun y282 => ((some (([x12_1] : List Int) : List Int)).bind fun y285 => (if y282.length + y285.length < 17592186044416 then ((some (y282 ++ y285 : List Int)).bind fun y288 => ((some (t269.drop (x14_3 : Int).toNat : List Int)).bind fun y291 => (if y288.length + y291.length < 17592186044416 then ((spec_l03Match.f k3 ((rd_T97 l0 (ji60)).f2) (y288 ++ y291)).bind fun t299 => (spec_MayInsert.l1 k3 l0 x10_1 t269 x12_1 t299 (wrap64 (x14_3 + 1)) ((rd_T103 l1_2 t260).f0) ((rd_T103 l1_2 t260).f1) ((rd_T103 l1_2 t260).f2) ((rd_T103 l1_2 t260).f3) ((rd_T103 l1_2 t260).f4))) else (none)))) else (none)))) else (none)) = some (r1, r2) := by first | (rw [hy277]; with_reducible exact H) | (have H2_ := (Option.bind_some _ _).symm.trans H; rw [hy277]; with_reducible exact H2_) | (have H2_ := (Option.bind_some _ _).symm.trans H; with_reducible exact H2_) | with_reducible exact H | (rw [hy277]; exact H) | exact H
     have Ny277 := Aside0.mk hy277
     clear hy277
     obtain ⟨c65, H⟩ := Xif H
     have LMc65 := Aside0.mk c65
     clear c65
     obtain ⟨y282, hy282⟩ : ∃ y_ : List Int, y_ = (y274 ++ y277) := ⟨_, rfl⟩
     replace H : ((some (([x12_1] : List Int) : List Int)).bind fun y285 => (if y282.length + y285.length < 17592186044416 then ((some (y282 ++ y285 : List Int)).bind fun y288 => ((some (t269.drop (x14_3 : Int).toNat : List Int)).bind fun y291 => (if y288.length + y291.length < 17592186044416 then ((spec_l03Match.f k3 ((rd_T97 l0 (ji60)).f2) (y288 ++ y291)).bind fun t299 => (spec_MayInsert.l1 k3 l0 x10_1 t269 x12_1 t299 (wrap64 (x14_3 + 1)) ((rd_T103 l1_2 t260).f0) ((rd_T103 l1_2 t260).f1) ((rd_T103 l1_2 t260).f2) ((rd_T103 l1_2 t260).f3) ((rd_T103 l1_2 t260).f4))) else (none)))) else (none))) = some (r1, r2) := by first | (rw [hy282]; with_reducible exact H) | (have H2_ := (Option.bind_some _ _).symm.trans H; rw [hy282]; with_reducible exact H2_) | (have H2_ := (Option.bind_some _ _).symm.trans H; with_reducible exact H2_) | with_reducible exact H | (rw [hy282]; exact H) | exact H
     have Ny282 := Aside0.mk hy282
     clear hy282
     obtain ⟨y285, hy285⟩ : ∃ y_ : List Int, y_ = (([x12_1] : List Int)) := ⟨_, rfl⟩
     replace H : (if y282.length + y285.length < 17592186044416 then ((some (y282 ++ y285 : List Int)).bind fun y288 => ((some (t269.drop (x14_3 : Int).toNat : List Int)).bind fun y291 => (if y288.length + y291.length < 17592186044416 then ((spec_l03Match.f k3 ((rd_T97 l0 (ji60)).f2) (y288 ++ y291)).bind fun t299 => (spec_MayInsert.l1 k3 l0 x10_1 t269 x12_1 t299 (wrap64 (x14_3 + 1)) ((rd_T103 l1_2 t260).f0) ((rd_T103 l1_2 t260).f1) ((rd_T103 l1_2 t260).f2) ((rd_T103 l1_2 t260).f3) ((rd_T103 l1_2 t260).f4))) else (none)))) else (none)) = some (r1, r2) := by first | (rw [hy285]; with_reducible exact H) | (have H2_ := (Option.bind_some _ _).symm.trans H; rw [hy285]; with_reducible exact H2_) | (have H2_ := (Option.bind_some _ _).symm.trans H; with_reducible exact H2_) | with_reducible exact H | (rw [hy285]; exact H) | exact H
     have Ny285 := Aside0.mk hy285
     clear hy285
     obtain ⟨c66, H⟩ := Xif H
     have LMc66 := Aside0.mk c66
     clear c66
     obtain ⟨y288, hy288⟩ : ∃ y_ : List Int, y_ = (y282 ++ y285) := ⟨_, rfl⟩
     replace H : ((some (t269.drop (x14_3 : Int).toNat : List Int)).bind fun y291 => (if y288.length + y291.length < 17592186044416 then ((spec_l03Match.f k3 ((rd_T97 l0 (ji60)).f2) (y288 ++ y291)).bind fun t299 => (spec_MayInsert.l1 k3 l0 x10_1 t269 x12_1 t299 (wrap64 (x14_3 + 1)) ((rd_T103 l1_2 t260).f0) ((rd_T103 l1_2 t260).f1) ((rd_T103 l1_2 t260).f2) ((rd_T103 l1_2 t260).f3) ((rd_T103 l1_2 t260).f4))) else (none))) = some (r1, r2) := by first | (rw [hy288]; with_reducible exact H) | (have H2_ := (Option.bind_some _ _).symm.trans H; rw [hy288]; with_reducible exact H2_) | (have H2_ := (Option.bind_some _ _).symm.trans H; with_reducible exact H2_) | with_reducible exact H | (rw [hy288]; exact H) | exact H
     have Ny288 := Aside0.mk hy288
     clear hy288
     have c67b0 := eq_true (of_decide_eq_true Xa : 0 ≤ x14_3)
     have c68b0 := eq_true (of_decide_eq_true Xa : x14_3 ≤ (t269.length : Int))
     obtain ⟨y291, hy291⟩ : ∃ y_ : List Int, y_ = (t269.drop (x14_3 : Int).toNat) := ⟨_, rfl⟩
     replace H : (if y288.length + y291.length < 17592186044416 then ((spec_l03Match.f k3 ((rd_T97 l0 (ji60)).f2) (y288 ++ y291)).bind fun t299 => (spec_MayInsert.l1 k3 l0 x10_1 t269 x12_1 t299 (wrap64 (x14_3 + 1)) ((rd_T103 l1_2 t260).f0) ((rd_T103 l1_2 t260).f1) ((rd_T103 l1_2 t260).f2) ((rd_T103 l1_2 t260).f3) ((rd_T103 l1_2 t260).f4))) else (none)) = some (r1, r2) := by first | (rw [hy291]; with_reducible exact H) | (have H2_ := (Option.bind_some _ _).symm.trans H; rw [hy291]; with_reducible exact H2_) | (have H2_ := (Option.bind_some _ _).symm.trans H; with_reducible exact H2_) | with_reducible exact H | (rw [hy291]; exact H) | exact H
     have Ny291 := Aside0.mk hy291
     clear hy291
     obtain ⟨c69, H⟩ := Xif H
     have LMc69 := Aside0.mk c69
     clear c69
     obtain ⟨y296, hy296⟩ : ∃ y_ : List Int, y_ = (y288 ++ y291) := ⟨_, rfl⟩
     replace H : ((spec_l03Match.f k3 ((rd_T97 l0 (ji60)).f2) y296).bind fun t299 => (spec_MayInsert.l1 k3 l0 x10_1 t269 x12_1 t299 (wrap64 (x14_3 + 1)) ((rd_T103 l1_2 t260).f0) ((rd_T103 l1_2 t260).f1) ((rd_T103 l1_2 t260).f2) ((rd_T103 l1_2 t260).f3) ((rd_T103 l1_2 t260).f4))) = some (r1, r2) := by first | (rw [hy296]; with_reducible exact H) | (have H2_ := (Option.bind_some _ _).symm.trans H; rw [hy296]; with_reducible exact H2_) | (have H2_ := (Option.bind_some _ _).symm.trans H; with_reducible exact H2_) | with_reducible exact H | (rw [hy296]; exact H) | exact H
     have Ny296 := Aside0.mk hy296
     clear hy296
     obtain ⟨t299, A70, H⟩ := Xbi H
     (try dsimp only at H)
     have H' := Aside0.mk H
     clear H
     obtain ⟨Ao71, co71, eo71⟩ := Kd.R_slice HO_11.out
     subst eo71
     try go_wp2_with (fail)
     replace HO_10 := Aside0.mk (Kd.R_drew HO_10.out)
     replace HO_11 := Aside0.mk (Kd.R_drew HO_11.out)
     replace BK248 := Aside0.mk (blk_drew BK248.out)
     replace BK262 := Aside0.mk (blk_drew BK262.out)
     replace HB := Aside0.mk (below_drew1 HB.out)
     have p273 : 0 ≤ ((ji60) : Int) := of_decide_eq_true Xa
     have q273 : (ji60) < (l0.length : Int) := of_decide_eq_true Xa
     obtain ⟨ad273, A273_2, c273_2, e273, hx273_0, hx273_1, hx273_2, hl273_2, hi273_2⟩ := at_T97 HR0.out (ji60) p273 q273
     have hw273_2 := hx273_2
     have hw273_1 := hx273_1
     have hw273_0 := hx273_0
     cases e273
     replace hx273_0 := Xm HB hx273_0
     replace hx273_1 := Xm HB hx273_1
     replace hx273_2 := Xm HB hx273_2
     have HR273_2 := Aside0.mk hi273_2
     have HC273_2 := Aside0.mk hl273_2
     clear hi273_2 hl273_2
     replace p273 := eq_true p273
     replace q273 := eq_true q273
     have q73 : (x14_3 : Int) ≤ ((t269.length : Int) : Int) := of_decide_eq_true Xa
     obtain ⟨i073, hi073, _, hsz73, _⟩ := info_parts info3
     have hroom73 : t269.length ≤ co71 := (Kd.R_reads' HO_11.out).2.1
     have hC73 : Kd.F (Kd.int .i64) _ _ Ao71 t269.length t269 := (Kd.V_at (base := w.heap.size) (Kd.R_V (Kd.R_types (Kd.R_types (HO_11.out) BK248.out (by decide)) BK262.out (by decide)))).2.2
     have hcut73 := cut_to (P := Try.prog) 39 3 .i64 Try.underlying39 hi073 Ao71 t269.length co71 x14_3 (of_decide_eq_true Xa) q73 hroom73
     have hr73 := Kd.F_take (m := (x14_3 : Int).toNat) hC73 (by omega)
     have hy73 : y277.length = (x14_3 : Int).toNat := (by rw [Ny277.out, List.length_take]; omega)
     rw [← Ny277.out] at hr73
     rw [← hy73] at hcut73
     have HO281 := Aside0.mk (show Kd.V (Kd.int .i64) 3 _ w.heap.size _ (.slice Ao71 y277.length co71) y277 from Kd.V_mk (by omega) hr73)
     have HC281 := Aside0.mk (show y277.length ≤ co71 from by omega)
     clear hr73 hC73 hroom73 hi073 hsz73
     have KY73 := Aside0.mk hy73
     clear hy73
     replace q73 := eq_true q73
     have q74 : (x14_3 : Int) ≤ ((t269.length : Int) : Int) := of_decide_eq_true Xa
     obtain ⟨i074, hi074, _, hsz74, _⟩ := info_parts info3
     have hroom74 : t269.length ≤ co71 := (Kd.R_reads' HO_11.out).2.1
     have hC74 : Kd.F (Kd.int .i64) _ _ Ao71 t269.length t269 := (Kd.V_at (base := w.heap.size) (Kd.R_V (Kd.R_types (Kd.R_types (HO_11.out) BK248.out (by decide)) BK262.out (by decide)))).2.2
     have q074 : (0 : Int) ≤ (x14_3 : Int) := of_decide_eq_true Xa
     have hcut74 := cut_from (P := Try.prog) 39 3 .i64 Try.underlying39 hi074 1 hsz74 Ao71 t269.length co71 x14_3 q074 q74
     have hr74 := Kd.F_cut (m := (x14_3 : Int).toNat) (c := co71) hC74 (by omega) hroom74
     obtain ⟨A74, hA74⟩ : ∃ A1, A1 = (if co71 = (x14_3 : Int).toNat then Ao71 else (Ao71 : Option Addr).map (·.add ((x14_3 : Int).toNat * 1))) := ⟨_, rfl⟩
     obtain ⟨c74, hc74⟩ : ∃ c1, c1 = co71 - (x14_3 : Int).toNat := ⟨_, rfl⟩
     have hy74 : y291.length = t269.length - (x14_3 : Int).toNat := (by rw [Ny291.out, List.length_drop] <;> omega)
     rw [show (t269).drop (x14_3 : Int).toNat = y291 from Ny291.out.symm] at hr74
     replace hr74 : Kd.F (Kd.int .i64) _ _ A74 y291.length y291 := (by rw [hA74]; exact hr74)
     rw [← hy74, ← hA74, ← hc74] at hcut74
     have HO295 := Aside0.mk (show Kd.V (Kd.int .i64) 3 _ w.heap.size _ (.slice A74 y291.length c74) y291 from Kd.V_mk (by rw [hy74, hc74]; exact Nat.sub_le_sub_right hroom74 _) hr74)
     have HC295 := Aside0.mk (show y291.length ≤ c74 from by rw [hy74, hc74]; exact Nat.sub_le_sub_right hroom74 _)
     clear hr74 hC74 hroom74 hi074 hsz74 hc74
     have KY74 := Aside0.mk hy74
     have KA74 := Aside0.mk hA74
     clear hy74 hA74
     replace q74 := eq_true q74
     refine start_ (n := 24) (S := fun w' => w'.cell? ⟨gb262, 0, none⟩ = some (.int .i64 ((rd_T103 l1_2 t260).f0)) ∧ w'.cell? ⟨gb262, 1, none⟩ = some (.int .i64 ((rd_T103 l1_2 t260).f1)) ∧ w'.cell? ⟨gb262, 2, none⟩ = some (.int .i64 ((rd_T103 l1_2 t260).f2)) ∧ w'.cell? ⟨gb262, 3, none⟩ = some (.string ((rd_T103 l1_2 t260).f3)) ∧ w'.cell? ⟨gb262, 4, none⟩ = some (.slice A261_4 ((rd_T103 l1_2 t260).f4).length c261_4) ∧ w'.cell? (ad273.add (((ji60)).toNat * 3)) = some (.string ((rd_T97 l0 (ji60)).f0)) ∧ w'.cell? ⟨(ad273.add (((ji60)).toNat * 3)).block, (ad273.add (((ji60)).toNat * 3)).off + 1, none⟩ = some (.bool ((rd_T97 l0 (ji60)).f1)) ∧ w'.cell? ⟨(ad273.add (((ji60)).toNat * 3)).block, (ad273.add (((ji60)).toNat * 3)).off + 2, none⟩ = some (.slice A273_2 ((rd_T97 l0 (ji60)).f2).length c273_2)) (ds := []) #[false, false, false, false, false, false, false, false, false, false, false, false, false, false, false, false, false, false, false, false, false, false, false, false] (by kernel_rfl) rfl rfl ⟨(blk_cell BK262.out 0).trans rfl, (blk_cell BK262.out 1).trans rfl, (blk_cell BK262.out 2).trans rfl, (blk_cell BK262.out 3).trans rfl, (blk_cell BK262.out 4).trans rfl, Xn hw273_0, Xn hw273_1, Xn hw273_2⟩ (fun hHeld => ?_); refine with_tabW spec_MayInsert.tab20 spec_MayInsert.bits20 (fun HT_ HW_ => ?_)
     generalize wr.drew = w72 at HO_10 HO_11 BK248 BK262 HB HO281 HO295 HR273_2 hx273_0 hx273_1 hx273_2 hHeld ⊢
     refine Xpu 0 74 (XW.bs 24 1) HT_.out ?_
     refine Xpu 1 75 (XW.bs 24 3) HT_.out ?_
     refine Xpu 2 76 (XW.bs 24 7) HT_.out ?_
     refine Xpu 3 77 (XW.bs 24 15) HT_.out ?_
     refine Xpu 10 84 (XW.bs 24 1039) HT_.out ?_
     refine Xpu 11 85 (XW.bs 24 3087) HT_.out ?_
     refine Xpu 12 86 (XW.bs 24 7183) HT_.out ?_
     refine Xpu 14 88 (XW.bs 24 23567) HT_.out ?_
     refine Xpu 17 91 (XW.bs 24 154639) HT_.out ?_
     refine Xpu 18 92 (XW.bs 24 416783) HT_.out ?_
     refine Xpu 19 93 (XW.bs 24 941071) HT_.out ?_
     refine Xta 4 78 (XW.bs 24 941087) HT_.out HW_.out hHeld ?_
     refine Xpu 5 79 (XW.bs 24 941119) HT_.out ?_
     refine Xpu 6 80 (XW.bs 24 941183) HT_.out ?_
     refine Xpu 7 81 (XW.bs 24 941311) HT_.out ?_
     refine Xta 8 82 (XW.bs 24 941567) HT_.out HW_.out hHeld ?_
     refine join_ (σ := Value × Value × Value) 5 #[true, true, true, true, true, true, true, true, true, true, true, true, true, true, true, true, false, true, true, true, false, false, false, false] (fun s_ => [(83, s_.1), (87, s_.2.1), (89, s_.2.2)]) (fun s_ w' => (w'.cell? ⟨gb262, 0, none⟩ = some (.int .i64 ((rd_T103 l1_2 t260).f0)) ∧ w'.cell? ⟨gb262, 1, none⟩ = some (.int .i64 ((rd_T103 l1_2 t260).f1)) ∧ w'.cell? ⟨gb262, 2, none⟩ = some (.int .i64 ((rd_T103 l1_2 t260).f2)) ∧ w'.cell? ⟨gb262, 3, none⟩ = some (.string ((rd_T103 l1_2 t260).f3)) ∧ w'.cell? ⟨gb262, 4, none⟩ = some (.slice A261_4 ((rd_T103 l1_2 t260).f4).length c261_4) ∧ w'.cell? (ad273.add (((ji60)).toNat * 3)) = some (.string ((rd_T97 l0 (ji60)).f0)) ∧ w'.cell? ⟨(ad273.add (((ji60)).toNat * 3)).block, (ad273.add (((ji60)).toNat * 3)).off + 1, none⟩ = some (.bool ((rd_T97 l0 (ji60)).f1)) ∧ w'.cell? ⟨(ad273.add (((ji60)).toNat * 3)).block, (ad273.add (((ji60)).toNat * 3)).off + 2, none⟩ = some (.slice A273_2 ((rd_T97 l0 (ji60)).f2).length c273_2)) ∧ (Kd.V (Kd.int .i64) 3 w' w.heap.size (fun k_ => some k_ ≠ (s_.2.1 : Value).ownBlock ∧ some k_ ≠ (s_.2.2 : Value).ownBlock ∧ some k_ ≠ (u10 : Value).ownBlock ∧ k_ ≠ gb248 ∧ k_ ≠ gb262) (.slice Ao71 y277.length co71) y277) ∧ (Kd.R (Kd.int .i64) 3 w' w.heap.size (fun k_ => some k_ ≠ (s_.2.2 : Value).ownBlock ∧ some k_ ≠ (u10 : Value).ownBlock ∧ some k_ ≠ (.slice Ao71 t269.length co71 : Value).ownBlock) s_.2.1 y282) ∧ (Kd.R (Kd.int .i64) 3 w' w.heap.size (fun k_ => some k_ ≠ (s_.2.1 : Value).ownBlock ∧ some k_ ≠ (u10 : Value).ownBlock ∧ some k_ ≠ (.slice Ao71 t269.length co71 : Value).ownBlock) s_.2.2 y285) ∧ (Kd.V (Kd.int .i64) 3 w' w.heap.size (fun k_ => some k_ ≠ (s_.2.1 : Value).ownBlock ∧ some k_ ≠ (s_.2.2 : Value).ownBlock ∧ some k_ ≠ (u10 : Value).ownBlock ∧ k_ ≠ gb248 ∧ k_ ≠ gb262) (.slice A74 y291.length c74) y291) ∧ (Kd.R (Kd.int .i64) 3 w' w.heap.size (fun k_ => some k_ ≠ (s_.2.1 : Value).ownBlock ∧ some k_ ≠ (s_.2.2 : Value).ownBlock ∧ some k_ ≠ (.slice Ao71 t269.length co71 : Value).ownBlock) u10 x10_1) ∧ (Kd.R (Kd.int .i64) 3 w' w.heap.size (fun k_ => some k_ ≠ (s_.2.1 : Value).ownBlock ∧ some k_ ≠ (s_.2.2 : Value).ownBlock ∧ some k_ ≠ (u10 : Value).ownBlock) (.slice Ao71 t269.length co71) t269) ∧ (w'.heap[gb248]? = some (.cells #[.int .i64 a1_0, .int .i64 a1_1, .slice (some ad261) l1_2.length c1_2] 65 (0, 0))) ∧ (w'.heap[gb262]? = some (.cells #[.int .i64 ((rd_T103 l1_2 t260).f0), .int .i64 ((rd_T103 l1_2 t260).f1), .int .i64 ((rd_T103 l1_2 t260).f2), .string ((rd_T103 l1_2 t260).f3), .slice A261_4 ((rd_T103 l1_2 t260).f4).length c261_4] 103 (0, 0))) ∧ (Below w.heap.size w w')) ?_ ?_
     rotate_left
     ·intro hCont
      refine two_ (i := 9) (j := 15) (Ni := some 83) (Nj := some 89) #[true, true, true, true, true, true, true, true, true, true, true, true, true, false, true, false, false, true, true, true, false, false, false, false] #[true, true, true, true, true, true, true, true, true, false, true, true, true, false, true, true, false, true, true, true, false, false, false, false] rfl rfl rfl rfl (two_of HT_.out (by kernel_rfl)) (by decide) (by decide) (fun K hK => ?_) (fun K hK => ?_)
      ·skip
       refine Kd.R_lit_step (Kd.int .i64) _ 3 ?hg (N := 83) ?hd (xs := ([] : List Int)) (inner := []) (ok := fun _ => True) (okp := fun _ => True) ?hr ?hp (fun _ hk => hk) trivial (Below.refl _ _) (Nat.le_refl _) (by simp) ?_; (case hd => rfl); (case hg => rfl); (case hr => first | (go_simp; done) | (go_simp; rfl)); (case hp => exact (Reps.none _ _))
       intro v275 w75 ho76 hb hg_ hnew_
       clear hg_ hnew_
       (first | rw [← Ny274.out] at ho76 | (simp only [Int.reduceToNat] at ho76; rw [← Ny274.out] at ho76))
       replace HO281 := Aside0.mk (Kd.V_elder' (by (with_reducible repeat (first | apply Kd.V_alloc | apply Kd.V_drewN | apply Kd.V_drew)); exact HO281.out) (Kd.R_base ho76) hb)
       replace HO295 := Aside0.mk (Kd.V_elder' (by (with_reducible repeat (first | apply Kd.V_alloc | apply Kd.V_drewN | apply Kd.V_drew)); exact HO295.out) (Kd.R_base ho76) hb)
       have HO276 := Aside0.mk (Kd.R_lower (Kd.R_new' (Kd.R_new' ho76 (Kd.R_lt (Xq HO_10))) (Kd.R_lt (Xq HO_11))) (below_size Xi))
       replace HO_10 := Aside0.mk (Kd.R_elder' (Xq HO_10) (Kd.R_base ho76) hb)
       replace HO_11 := Aside0.mk (Kd.R_elder' (Xq HO_11) (Kd.R_base ho76) hb)
       replace BK248 := Xbb BK248 hb
       replace BK262 := Xbb BK262 hb
       replace HB := Aside0.mk (below_step Xi hb)
       clear hb ho76
       refine hK.out _ _ ⟨(blk_cell BK262.out 0).trans rfl, (blk_cell BK262.out 1).trans rfl, (blk_cell BK262.out 2).trans rfl, (blk_cell BK262.out 3).trans rfl, (blk_cell BK262.out 4).trans rfl, Xn hw273_0, Xn hw273_1, Xn hw273_2⟩ (fun hHeld => ?_)
       clear hK K
       refine Xno ?_
       refine two_ (i := 13) (j := 15) (Ni := some 87) (Nj := some 89) #[true, true, true, true, true, true, true, true, true, true, true, true, true, true, true, false, false, true, true, true, false, false, false, false] #[true, true, true, true, true, true, true, true, true, true, true, true, true, false, true, true, false, true, true, true, false, false, false, false] rfl rfl rfl rfl (two_of HT_.out (by kernel_rfl)) (by decide) (by decide) (fun K hK => ?_) (fun K hK => ?_)
       ·skip
        refine Kd.R_append_rows_step (Kd.int .i64) (w0 := w) w.heap.size (by rfl) (.tmp 83) (.tmp 86) 39 3 (.int .i64 0) 8 rfl Try.underlying39 info3 rfl (by decide) (by omega) v275 y274 y277 _ _ _ (fun k_ => some k_ ≠ (u10 : Value).ownBlock ∧ some k_ ≠ (.slice Ao71 t269.length co71 : Value).ownBlock) (fun _ => False) rfl rfl ?aO ?aR (fun _ _ h => h) (fun _ h => h.elim) ?aF ?aB ?aS ?aL ?_
        (case aR => repeat (first | exact (Kd.V_reads' HO281.out).2.2 | (with_reducible first | refine Kd.C_alloc ?_ _ | refine Kd.C_drewN ?_ _ | refine Kd.C_drew ?_)))
        (case aB => exact Xi)
        (case aF => exact (fun k_ hk => ⟨Kd.fresh' (Kd.R_lt (Xq HO_10)) k_ hk, Kd.fresh' (Kd.R_lt (Xq HO_11)) k_ hk⟩))
        (case aO => exact (by (with_reducible repeat (first | apply Kd.R_alloc | apply Kd.R_drewN | apply Kd.R_drew)); exact Kd.R_mono HO276.out (fun _ hk => ⟨hk.1.2, hk.2⟩)))
        (case aS => exact (below_size Xi))
        (case aL => have := LMc65.out; omega)
        intro v283 w77 ho hb hg hat
        rw [← Ny282.out] at ho
        replace HO_10 := Aside0.mk (Kd.R_after (ok := (fun k_ => some k_ ≠ (.slice Ao71 t269.length co71 : Value).ownBlock)) (Xq HO_10) hg hat)
        replace HO_11 := Aside0.mk (Kd.R_after (ok := (fun k_ => some k_ ≠ (u10 : Value).ownBlock)) (Xq HO_11) hg hat)
        replace BK248 := Aside0.mk (blk_grown (g := gb248) (o := .cells #[.int .i64 a1_0, .int .i64 a1_1, .slice (some ad261) l1_2.length c1_2] 65 (0, 0)) (Xq' BK248) hg (Kd.R_ne HO276.out BK248.out (by decide)))
        replace BK262 := Aside0.mk (blk_grown (g := gb262) (o := .cells #[.int .i64 ((rd_T103 l1_2 t260).f0), .int .i64 ((rd_T103 l1_2 t260).f1), .int .i64 ((rd_T103 l1_2 t260).f2), .string ((rd_T103 l1_2 t260).f3), .slice A261_4 ((rd_T103 l1_2 t260).f4).length c261_4] 103 (0, 0)) (Xq' BK262) hg (Kd.R_ne HO276.out BK262.out (by decide)))
        replace HO281 := Aside0.mk (Kd.V_afterv (ok := (fun k_ => some k_ ≠ (u10 : Value).ownBlock ∧ k_ ≠ gb248 ∧ k_ ≠ gb262)) (by (with_reducible repeat (first | apply Kd.V_alloc | apply Kd.V_drewN | apply Kd.V_drew)); exact Kd.V_mono HO281.out (fun _ hk => ⟨⟨hk.1.1.1, ⟨hk.1.1.2, hk.1.2⟩⟩, hk.2⟩)) hg hat)
        replace HO295 := Aside0.mk (Kd.V_afterv (ok := (fun k_ => some k_ ≠ (u10 : Value).ownBlock ∧ k_ ≠ gb248 ∧ k_ ≠ gb262)) (by (with_reducible repeat (first | apply Kd.V_alloc | apply Kd.V_drewN | apply Kd.V_drew)); exact Kd.V_mono HO295.out (fun _ hk => ⟨⟨hk.1.1.1, ⟨hk.1.1.2, hk.1.2⟩⟩, hk.2⟩)) hg hat)
        replace HB := Aside0.mk (hb)
        have HO284 := Aside0.mk (ho)
        clear HO276
        clear ho hb hg hat
        refine hK.out _ _ ⟨(blk_cell BK262.out 0).trans rfl, (blk_cell BK262.out 1).trans rfl, (blk_cell BK262.out 2).trans rfl, (blk_cell BK262.out 3).trans rfl, (blk_cell BK262.out 4).trans rfl, Xn hw273_0, Xn hw273_1, Xn hw273_2⟩ (fun hHeld => ?_)
        clear hK K
        refine Xno ?_
        refine one_ (i := 15) (N := some 89) (XW.bs 24 983039) rfl rfl (one_of HT_.out (by kernel_rfl)) (by decide) (fun K hK => ?_)
        refine Kd.R_lit_step (Kd.int .i64) _ 3 ?hg (N := 89) ?hd (xs := ([x12_1] : List Int)) (inner := [.int .i64 x12_1]) (ok := fun _ => True) (okp := fun _ => True) ?hr ?hp (fun _ hk => hk) trivial (Below.refl _ _) (Nat.le_refl _) (by simp) ?_; (case hd => rfl); (case hg => rfl); (case hr => first | (go_simp; done) | (go_simp; rfl)); (case hp => exact (Reps.one (show Kd.M (Kd.int .i64) _ _ _ x12_1 [.int .i64 x12_1] from rfl) (Reps.none _ _)))
        intro v286 w78 ho79 hb hg_ hnew_
        clear hg_ hnew_
        (first | rw [← Ny285.out] at ho79 | (simp only [Int.reduceToNat] at ho79; rw [← Ny285.out] at ho79))
        replace HO281 := Aside0.mk (Kd.V_elder' (by (with_reducible repeat (first | apply Kd.V_alloc | apply Kd.V_drewN | apply Kd.V_drew)); exact HO281.out) (Kd.R_base ho79) hb)
        replace HO295 := Aside0.mk (Kd.V_elder' (by (with_reducible repeat (first | apply Kd.V_alloc | apply Kd.V_drewN | apply Kd.V_drew)); exact HO295.out) (Kd.R_base ho79) hb)
        have HO287 := Aside0.mk (Kd.R_lower (Kd.R_new' (Kd.R_new' (Kd.R_new' ho79 (Kd.R_lt (Xq HO_10))) (Kd.R_lt (Xq HO_11))) (Kd.R_lt (Xq HO284))) (below_size Xi))
        replace HO_10 := Aside0.mk (Kd.R_elder' (Xq HO_10) (Kd.R_base ho79) hb)
        replace HO_11 := Aside0.mk (Kd.R_elder' (Xq HO_11) (Kd.R_base ho79) hb)
        replace HO284 := Aside0.mk (Kd.R_elder' (Xq HO284) (Kd.R_base ho79) hb)
        replace BK248 := Xbb BK248 hb
        replace BK262 := Xbb BK262 hb
        replace HB := Aside0.mk (below_step Xi hb)
        clear hb ho79
        refine hK.out _ _ ⟨(blk_cell BK262.out 0).trans rfl, (blk_cell BK262.out 1).trans rfl, (blk_cell BK262.out 2).trans rfl, (blk_cell BK262.out 3).trans rfl, (blk_cell BK262.out 4).trans rfl, Xn hw273_0, Xn hw273_1, Xn hw273_2⟩ (fun hHeld => ?_)
        clear hK K
        refine Xno ?_
        exact norm_ (by simp only [putAll, Act.put, List.setIfInBounds_toArray, List.set_cons_zero, List.set_cons_succ]) (hCont (v275, v283, v286) _ ⟨hHeld, (by (with_reducible repeat (first | apply Kd.V_alloc | apply Kd.V_drewN | apply Kd.V_drew)); exact Kd.V_mono HO281.out (fun _ hk => ⟨hk.1.2, ⟨hk.2, ⟨hk.1.1.1, ⟨hk.1.1.2.1, hk.1.1.2.2⟩⟩⟩⟩)), (by (with_reducible repeat (first | apply Kd.R_alloc | apply Kd.R_drewN | apply Kd.R_drew)); exact Kd.R_mono HO284.out (fun _ hk => ⟨hk.2, ⟨hk.1.1, hk.1.2⟩⟩)), (by (with_reducible repeat (first | apply Kd.R_alloc | apply Kd.R_drewN | apply Kd.R_drew)); exact Kd.R_mono HO287.out (fun _ hk => ⟨hk.2, ⟨hk.1.1.2, hk.1.2⟩⟩)), (by (with_reducible repeat (first | apply Kd.V_alloc | apply Kd.V_drewN | apply Kd.V_drew)); exact Kd.V_mono HO295.out (fun _ hk => ⟨hk.1.2, ⟨hk.2, ⟨hk.1.1.1, ⟨hk.1.1.2.1, hk.1.1.2.2⟩⟩⟩⟩)), (by (with_reducible repeat (first | apply Kd.R_alloc | apply Kd.R_drewN | apply Kd.R_drew)); exact Kd.R_mono HO_10.out (fun _ hk => ⟨hk.1.2, ⟨hk.2, hk.1.1⟩⟩)), (by (with_reducible repeat (first | apply Kd.R_alloc | apply Kd.R_drewN | apply Kd.R_drew)); exact Kd.R_mono HO_11.out (fun _ hk => ⟨hk.1.2, ⟨hk.2, hk.1.1⟩⟩)), (Xq' BK248), (Xq' BK262), Xi⟩)
       skip
       refine Kd.R_lit_step (Kd.int .i64) _ 3 ?hg (N := 89) ?hd (xs := ([x12_1] : List Int)) (inner := [.int .i64 x12_1]) (ok := fun _ => True) (okp := fun _ => True) ?hr ?hp (fun _ hk => hk) trivial (Below.refl _ _) (Nat.le_refl _) (by simp) ?_; (case hd => rfl); (case hg => rfl); (case hr => first | (go_simp; done) | (go_simp; rfl)); (case hp => exact (Reps.one (show Kd.M (Kd.int .i64) _ _ _ x12_1 [.int .i64 x12_1] from rfl) (Reps.none _ _)))
       intro v286 w77 ho78 hb hg_ hnew_
       clear hg_ hnew_
       (first | rw [← Ny285.out] at ho78 | (simp only [Int.reduceToNat] at ho78; rw [← Ny285.out] at ho78))
       replace HO281 := Aside0.mk (Kd.V_elder' (by (with_reducible repeat (first | apply Kd.V_alloc | apply Kd.V_drewN | apply Kd.V_drew)); exact HO281.out) (Kd.R_base ho78) hb)
       replace HO295 := Aside0.mk (Kd.V_elder' (by (with_reducible repeat (first | apply Kd.V_alloc | apply Kd.V_drewN | apply Kd.V_drew)); exact HO295.out) (Kd.R_base ho78) hb)
       have HO287 := Aside0.mk (Kd.R_lower (Kd.R_new' (Kd.R_new' (Kd.R_new' ho78 (Kd.R_lt (Xq HO_10))) (Kd.R_lt (Xq HO_11))) (Kd.R_lt (Xq HO276))) (below_size Xi))
       replace HO_10 := Aside0.mk (Kd.R_elder' (Xq HO_10) (Kd.R_base ho78) hb)
       replace HO_11 := Aside0.mk (Kd.R_elder' (Xq HO_11) (Kd.R_base ho78) hb)
       replace HO276 := Aside0.mk (Kd.R_elder' (Xq HO276) (Kd.R_base ho78) hb)
       replace BK248 := Xbb BK248 hb
       replace BK262 := Xbb BK262 hb
       replace HB := Aside0.mk (below_step Xi hb)
       clear hb ho78
       refine hK.out _ _ ⟨(blk_cell BK262.out 0).trans rfl, (blk_cell BK262.out 1).trans rfl, (blk_cell BK262.out 2).trans rfl, (blk_cell BK262.out 3).trans rfl, (blk_cell BK262.out 4).trans rfl, Xn hw273_0, Xn hw273_1, Xn hw273_2⟩ (fun hHeld => ?_)
       clear hK K
       refine Xno ?_
       refine one_ (i := 13) (N := some 87) (XW.bs 24 983039) rfl rfl (one_of HT_.out (by kernel_rfl)) (by decide) (fun K hK => ?_)
       refine Kd.R_append_rows_step (Kd.int .i64) (w0 := w) w.heap.size (by rfl) (.tmp 83) (.tmp 86) 39 3 (.int .i64 0) 8 rfl Try.underlying39 info3 rfl (by decide) (by omega) v275 y274 y277 _ _ _ (fun k_ => some k_ ≠ (u10 : Value).ownBlock ∧ some k_ ≠ (.slice Ao71 t269.length co71 : Value).ownBlock ∧ some k_ ≠ (v286 : Value).ownBlock) (fun _ => False) rfl rfl ?aO ?aR (fun _ _ h => h) (fun _ h => h.elim) ?aF ?aB ?aS ?aL ?_
       (case aR => repeat (first | exact (Kd.V_reads' HO281.out).2.2 | (with_reducible first | refine Kd.C_alloc ?_ _ | refine Kd.C_drewN ?_ _ | refine Kd.C_drew ?_)))
       (case aB => exact Xi)
       (case aF => exact (fun k_ hk => ⟨Kd.fresh' (Kd.R_lt (Xq HO_10)) k_ hk, Kd.fresh' (Kd.R_lt (Xq HO_11)) k_ hk, Kd.fresh' (Kd.R_lt (Xq HO287)) k_ hk⟩))
       (case aO => exact (by (with_reducible repeat (first | apply Kd.R_alloc | apply Kd.R_drewN | apply Kd.R_drew)); exact Kd.R_mono HO276.out (fun _ hk => ⟨hk.1.1.2, ⟨hk.1.2, hk.2⟩⟩)))
       (case aS => exact (below_size Xi))
       (case aL => have := LMc65.out; omega)
       intro v283 w79 ho hb hg hat
       rw [← Ny282.out] at ho
       replace HO_10 := Aside0.mk (Kd.R_after (ok := (fun k_ => some k_ ≠ (.slice Ao71 t269.length co71 : Value).ownBlock ∧ some k_ ≠ (v286 : Value).ownBlock)) (by (with_reducible repeat (first | apply Kd.R_alloc | apply Kd.R_drewN | apply Kd.R_drew)); exact Kd.R_mono HO_10.out (fun _ hk => ⟨⟨hk.1.1, hk.2⟩, hk.1.2⟩)) hg hat)
       replace HO_11 := Aside0.mk (Kd.R_after (ok := (fun k_ => some k_ ≠ (u10 : Value).ownBlock ∧ some k_ ≠ (v286 : Value).ownBlock)) (by (with_reducible repeat (first | apply Kd.R_alloc | apply Kd.R_drewN | apply Kd.R_drew)); exact Kd.R_mono HO_11.out (fun _ hk => ⟨⟨hk.1.1, hk.2⟩, hk.1.2⟩)) hg hat)
       replace BK248 := Aside0.mk (blk_grown (g := gb248) (o := .cells #[.int .i64 a1_0, .int .i64 a1_1, .slice (some ad261) l1_2.length c1_2] 65 (0, 0)) (Xq' BK248) hg (Kd.R_ne HO276.out BK248.out (by decide)))
       replace BK262 := Aside0.mk (blk_grown (g := gb262) (o := .cells #[.int .i64 ((rd_T103 l1_2 t260).f0), .int .i64 ((rd_T103 l1_2 t260).f1), .int .i64 ((rd_T103 l1_2 t260).f2), .string ((rd_T103 l1_2 t260).f3), .slice A261_4 ((rd_T103 l1_2 t260).f4).length c261_4] 103 (0, 0)) (Xq' BK262) hg (Kd.R_ne HO276.out BK262.out (by decide)))
       replace HO281 := Aside0.mk (Kd.V_afterv (ok := (fun k_ => some k_ ≠ (u10 : Value).ownBlock ∧ some k_ ≠ (v286 : Value).ownBlock ∧ k_ ≠ gb248 ∧ k_ ≠ gb262)) (by (with_reducible repeat (first | apply Kd.V_alloc | apply Kd.V_drewN | apply Kd.V_drew)); exact Kd.V_mono HO281.out (fun _ hk => ⟨⟨hk.1.1.1.1, ⟨hk.2, ⟨hk.1.1.1.2, hk.1.1.2⟩⟩⟩, hk.1.2⟩)) hg hat)
       replace HO295 := Aside0.mk (Kd.V_afterv (ok := (fun k_ => some k_ ≠ (u10 : Value).ownBlock ∧ some k_ ≠ (v286 : Value).ownBlock ∧ k_ ≠ gb248 ∧ k_ ≠ gb262)) (by (with_reducible repeat (first | apply Kd.V_alloc | apply Kd.V_drewN | apply Kd.V_drew)); exact Kd.V_mono HO295.out (fun _ hk => ⟨⟨hk.1.1.1.1, ⟨hk.2, ⟨hk.1.1.1.2, hk.1.1.2⟩⟩⟩, hk.1.2⟩)) hg hat)
       replace HO287 := Aside0.mk (Kd.R_after (ok := (fun k_ => some k_ ≠ (u10 : Value).ownBlock ∧ some k_ ≠ (.slice Ao71 t269.length co71 : Value).ownBlock)) (by (with_reducible repeat (first | apply Kd.R_alloc | apply Kd.R_drewN | apply Kd.R_drew)); exact Kd.R_mono HO287.out (fun _ hk => ⟨⟨hk.1.1.2, hk.1.2⟩, hk.2⟩)) hg hat)
       replace HB := Aside0.mk (hb)
       have HO284 := Aside0.mk (ho)
       clear HO276
       clear ho hb hg hat
       refine hK.out _ _ ⟨(blk_cell BK262.out 0).trans rfl, (blk_cell BK262.out 1).trans rfl, (blk_cell BK262.out 2).trans rfl, (blk_cell BK262.out 3).trans rfl, (blk_cell BK262.out 4).trans rfl, Xn hw273_0, Xn hw273_1, Xn hw273_2⟩ (fun hHeld => ?_)
       clear hK K
       refine Xno ?_
       exact norm_ (by simp only [putAll, Act.put, List.setIfInBounds_toArray, List.set_cons_zero, List.set_cons_succ]) (hCont (v275, v283, v286) _ ⟨hHeld, (by (with_reducible repeat (first | apply Kd.V_alloc | apply Kd.V_drewN | apply Kd.V_drew)); exact Kd.V_mono HO281.out (fun _ hk => ⟨hk.2, ⟨hk.1.2.1, ⟨hk.1.1, ⟨hk.1.2.2.1, hk.1.2.2.2⟩⟩⟩⟩)), (by (with_reducible repeat (first | apply Kd.R_alloc | apply Kd.R_drewN | apply Kd.R_drew)); exact Kd.R_mono HO284.out (fun _ hk => ⟨hk.2.2, ⟨hk.1, hk.2.1⟩⟩)), (by (with_reducible repeat (first | apply Kd.R_alloc | apply Kd.R_drewN | apply Kd.R_drew)); exact Kd.R_mono HO287.out (fun _ hk => ⟨hk.2, ⟨hk.1.1, hk.1.2⟩⟩)), (by (with_reducible repeat (first | apply Kd.V_alloc | apply Kd.V_drewN | apply Kd.V_drew)); exact Kd.V_mono HO295.out (fun _ hk => ⟨hk.2, ⟨hk.1.2.1, ⟨hk.1.1, ⟨hk.1.2.2.1, hk.1.2.2.2⟩⟩⟩⟩)), (by (with_reducible repeat (first | apply Kd.R_alloc | apply Kd.R_drewN | apply Kd.R_drew)); exact Kd.R_mono HO_10.out (fun _ hk => ⟨hk.2, ⟨hk.1.2, hk.1.1⟩⟩)), (by (with_reducible repeat (first | apply Kd.R_alloc | apply Kd.R_drewN | apply Kd.R_drew)); exact Kd.R_mono HO_11.out (fun _ hk => ⟨hk.2, ⟨hk.1.2, hk.1.1⟩⟩)), (Xq' BK248), (Xq' BK262), Xi⟩)
      skip
      refine Kd.R_lit_step (Kd.int .i64) _ 3 ?hg (N := 89) ?hd (xs := ([x12_1] : List Int)) (inner := [.int .i64 x12_1]) (ok := fun _ => True) (okp := fun _ => True) ?hr ?hp (fun _ hk => hk) trivial (Below.refl _ _) (Nat.le_refl _) (by simp) ?_; (case hd => rfl); (case hg => rfl); (case hr => first | (go_simp; done) | (go_simp; rfl)); (case hp => exact (Reps.one (show Kd.M (Kd.int .i64) _ _ _ x12_1 [.int .i64 x12_1] from rfl) (Reps.none _ _)))
      intro v286 w75 ho76 hb hg_ hnew_
      clear hg_ hnew_
      (first | rw [← Ny285.out] at ho76 | (simp only [Int.reduceToNat] at ho76; rw [← Ny285.out] at ho76))
      replace HO281 := Aside0.mk (Kd.V_elder' (by (with_reducible repeat (first | apply Kd.V_alloc | apply Kd.V_drewN | apply Kd.V_drew)); exact HO281.out) (Kd.R_base ho76) hb)
      replace HO295 := Aside0.mk (Kd.V_elder' (by (with_reducible repeat (first | apply Kd.V_alloc | apply Kd.V_drewN | apply Kd.V_drew)); exact HO295.out) (Kd.R_base ho76) hb)
      have HO287 := Aside0.mk (Kd.R_lower (Kd.R_new' (Kd.R_new' ho76 (Kd.R_lt (Xq HO_10))) (Kd.R_lt (Xq HO_11))) (below_size Xi))
      replace HO_10 := Aside0.mk (Kd.R_elder' (Xq HO_10) (Kd.R_base ho76) hb)
      replace HO_11 := Aside0.mk (Kd.R_elder' (Xq HO_11) (Kd.R_base ho76) hb)
      replace BK248 := Xbb BK248 hb
      replace BK262 := Xbb BK262 hb
      replace HB := Aside0.mk (below_step Xi hb)
      clear hb ho76
      refine hK.out _ _ ⟨(blk_cell BK262.out 0).trans rfl, (blk_cell BK262.out 1).trans rfl, (blk_cell BK262.out 2).trans rfl, (blk_cell BK262.out 3).trans rfl, (blk_cell BK262.out 4).trans rfl, Xn hw273_0, Xn hw273_1, Xn hw273_2⟩ (fun hHeld => ?_)
      clear hK K
      refine Xno ?_
      refine one_ (i := 9) (N := some 83) (XW.bs 24 974847) rfl rfl (one_of HT_.out (by kernel_rfl)) (by decide) (fun K hK => ?_)
      refine Kd.R_lit_step (Kd.int .i64) _ 3 ?hg (N := 83) ?hd (xs := ([] : List Int)) (inner := []) (ok := fun _ => True) (okp := fun _ => True) ?hr ?hp (fun _ hk => hk) trivial (Below.refl _ _) (Nat.le_refl _) (by simp) ?_; (case hd => rfl); (case hg => rfl); (case hr => first | (go_simp; done) | (go_simp; rfl)); (case hp => exact (Reps.none _ _))
      intro v275 w77 ho78 hb hg_ hnew_
      clear hg_ hnew_
      (first | rw [← Ny274.out] at ho78 | (simp only [Int.reduceToNat] at ho78; rw [← Ny274.out] at ho78))
      replace HO281 := Aside0.mk (Kd.V_elder' (by (with_reducible repeat (first | apply Kd.V_alloc | apply Kd.V_drewN | apply Kd.V_drew)); exact HO281.out) (Kd.R_base ho78) hb)
      replace HO295 := Aside0.mk (Kd.V_elder' (by (with_reducible repeat (first | apply Kd.V_alloc | apply Kd.V_drewN | apply Kd.V_drew)); exact HO295.out) (Kd.R_base ho78) hb)
      have HO276 := Aside0.mk (Kd.R_lower (Kd.R_new' (Kd.R_new' (Kd.R_new' ho78 (Kd.R_lt (Xq HO_10))) (Kd.R_lt (Xq HO_11))) (Kd.R_lt (Xq HO287))) (below_size Xi))
      replace HO_10 := Aside0.mk (Kd.R_elder' (Xq HO_10) (Kd.R_base ho78) hb)
      replace HO_11 := Aside0.mk (Kd.R_elder' (Xq HO_11) (Kd.R_base ho78) hb)
      replace HO287 := Aside0.mk (Kd.R_elder' (Xq HO287) (Kd.R_base ho78) hb)
      replace BK248 := Xbb BK248 hb
      replace BK262 := Xbb BK262 hb
      replace HB := Aside0.mk (below_step Xi hb)
      clear hb ho78
      refine hK.out _ _ ⟨(blk_cell BK262.out 0).trans rfl, (blk_cell BK262.out 1).trans rfl, (blk_cell BK262.out 2).trans rfl, (blk_cell BK262.out 3).trans rfl, (blk_cell BK262.out 4).trans rfl, Xn hw273_0, Xn hw273_1, Xn hw273_2⟩ (fun hHeld => ?_)
      clear hK K
      refine Xno ?_
      refine one_ (i := 13) (N := some 87) (XW.bs 24 983039) rfl rfl (one_of HT_.out (by kernel_rfl)) (by decide) (fun K hK => ?_)
      refine Kd.R_append_rows_step (Kd.int .i64) (w0 := w) w.heap.size (by rfl) (.tmp 83) (.tmp 86) 39 3 (.int .i64 0) 8 rfl Try.underlying39 info3 rfl (by decide) (by omega) v275 y274 y277 _ _ _ (fun k_ => some k_ ≠ (u10 : Value).ownBlock ∧ some k_ ≠ (.slice Ao71 t269.length co71 : Value).ownBlock ∧ some k_ ≠ (v286 : Value).ownBlock) (fun _ => False) rfl rfl ?aO ?aR (fun _ _ h => h) (fun _ h => h.elim) ?aF ?aB ?aS ?aL ?_
      (case aR => repeat (first | exact (Kd.V_reads' HO281.out).2.2 | (with_reducible first | refine Kd.C_alloc ?_ _ | refine Kd.C_drewN ?_ _ | refine Kd.C_drew ?_)))
      (case aB => exact Xi)
      (case aF => exact (fun k_ hk => ⟨Kd.fresh' (Kd.R_lt (Xq HO_10)) k_ hk, Kd.fresh' (Kd.R_lt (Xq HO_11)) k_ hk, Kd.fresh' (Kd.R_lt (Xq HO287)) k_ hk⟩))
      (case aO => exact (by (with_reducible repeat (first | apply Kd.R_alloc | apply Kd.R_drewN | apply Kd.R_drew)); exact Kd.R_mono HO276.out (fun _ hk => ⟨hk.1.1.2, ⟨hk.1.2, hk.2⟩⟩)))
      (case aS => exact (below_size Xi))
      (case aL => have := LMc65.out; omega)
      intro v283 w79 ho hb hg hat
      rw [← Ny282.out] at ho
      replace HO_10 := Aside0.mk (Kd.R_after (ok := (fun k_ => some k_ ≠ (.slice Ao71 t269.length co71 : Value).ownBlock ∧ some k_ ≠ (v286 : Value).ownBlock)) (Xq HO_10) hg hat)
      replace HO_11 := Aside0.mk (Kd.R_after (ok := (fun k_ => some k_ ≠ (u10 : Value).ownBlock ∧ some k_ ≠ (v286 : Value).ownBlock)) (Xq HO_11) hg hat)
      replace BK248 := Aside0.mk (blk_grown (g := gb248) (o := .cells #[.int .i64 a1_0, .int .i64 a1_1, .slice (some ad261) l1_2.length c1_2] 65 (0, 0)) (Xq' BK248) hg (Kd.R_ne HO276.out BK248.out (by decide)))
      replace BK262 := Aside0.mk (blk_grown (g := gb262) (o := .cells #[.int .i64 ((rd_T103 l1_2 t260).f0), .int .i64 ((rd_T103 l1_2 t260).f1), .int .i64 ((rd_T103 l1_2 t260).f2), .string ((rd_T103 l1_2 t260).f3), .slice A261_4 ((rd_T103 l1_2 t260).f4).length c261_4] 103 (0, 0)) (Xq' BK262) hg (Kd.R_ne HO276.out BK262.out (by decide)))
      replace HO281 := Aside0.mk (Kd.V_afterv (ok := (fun k_ => some k_ ≠ (u10 : Value).ownBlock ∧ some k_ ≠ (v286 : Value).ownBlock ∧ k_ ≠ gb248 ∧ k_ ≠ gb262)) (by (with_reducible repeat (first | apply Kd.V_alloc | apply Kd.V_drewN | apply Kd.V_drew)); exact Kd.V_mono HO281.out (fun _ hk => ⟨⟨hk.1.1.1.1, ⟨hk.1.2, ⟨hk.1.1.1.2, hk.1.1.2⟩⟩⟩, hk.2⟩)) hg hat)
      replace HO295 := Aside0.mk (Kd.V_afterv (ok := (fun k_ => some k_ ≠ (u10 : Value).ownBlock ∧ some k_ ≠ (v286 : Value).ownBlock ∧ k_ ≠ gb248 ∧ k_ ≠ gb262)) (by (with_reducible repeat (first | apply Kd.V_alloc | apply Kd.V_drewN | apply Kd.V_drew)); exact Kd.V_mono HO295.out (fun _ hk => ⟨⟨hk.1.1.1.1, ⟨hk.1.2, ⟨hk.1.1.1.2, hk.1.1.2⟩⟩⟩, hk.2⟩)) hg hat)
      replace HO287 := Aside0.mk (Kd.R_after (ok := (fun k_ => some k_ ≠ (u10 : Value).ownBlock ∧ some k_ ≠ (.slice Ao71 t269.length co71 : Value).ownBlock)) (by (with_reducible repeat (first | apply Kd.R_alloc | apply Kd.R_drewN | apply Kd.R_drew)); exact Kd.R_mono HO287.out (fun _ hk => ⟨⟨hk.1.1.2, hk.1.2⟩, hk.2⟩)) hg hat)
      replace HB := Aside0.mk (hb)
      have HO284 := Aside0.mk (ho)
      clear HO276
      clear ho hb hg hat
      refine hK.out _ _ ⟨(blk_cell BK262.out 0).trans rfl, (blk_cell BK262.out 1).trans rfl, (blk_cell BK262.out 2).trans rfl, (blk_cell BK262.out 3).trans rfl, (blk_cell BK262.out 4).trans rfl, Xn hw273_0, Xn hw273_1, Xn hw273_2⟩ (fun hHeld => ?_)
      clear hK K
      refine Xno ?_
      exact norm_ (by simp only [putAll, Act.put, List.setIfInBounds_toArray, List.set_cons_zero, List.set_cons_succ]) (hCont (v275, v283, v286) _ ⟨hHeld, (by (with_reducible repeat (first | apply Kd.V_alloc | apply Kd.V_drewN | apply Kd.V_drew)); exact Kd.V_mono HO281.out (fun _ hk => ⟨hk.2, ⟨hk.1.2.1, ⟨hk.1.1, ⟨hk.1.2.2.1, hk.1.2.2.2⟩⟩⟩⟩)), (by (with_reducible repeat (first | apply Kd.R_alloc | apply Kd.R_drewN | apply Kd.R_drew)); exact Kd.R_mono HO284.out (fun _ hk => ⟨hk.2.2, ⟨hk.1, hk.2.1⟩⟩)), (by (with_reducible repeat (first | apply Kd.R_alloc | apply Kd.R_drewN | apply Kd.R_drew)); exact Kd.R_mono HO287.out (fun _ hk => ⟨hk.2, ⟨hk.1.1, hk.1.2⟩⟩)), (by (with_reducible repeat (first | apply Kd.V_alloc | apply Kd.V_drewN | apply Kd.V_drew)); exact Kd.V_mono HO295.out (fun _ hk => ⟨hk.2, ⟨hk.1.2.1, ⟨hk.1.1, ⟨hk.1.2.2.1, hk.1.2.2.2⟩⟩⟩⟩)), (by (with_reducible repeat (first | apply Kd.R_alloc | apply Kd.R_drewN | apply Kd.R_drew)); exact Kd.R_mono HO_10.out (fun _ hk => ⟨hk.2, ⟨hk.1.2, hk.1.1⟩⟩)), (by (with_reducible repeat (first | apply Kd.R_alloc | apply Kd.R_drewN | apply Kd.R_drew)); exact Kd.R_mono HO_11.out (fun _ hk => ⟨hk.2, ⟨hk.1.2, hk.1.1⟩⟩)), (Xq' BK248), (Xq' BK262), Xi⟩)
     rintro ⟨v275, v283, v286⟩ w80 ⟨hS_, h0_, h1_, h2_, h3_, h4_, h5_, h6_, h7_, h8_⟩
     have n0_ : Aside0 (Kd.V (Kd.int .i64) 3 w80 w.heap.size (fun k_ => some k_ ≠ (v283 : Value).ownBlock ∧ some k_ ≠ (v286 : Value).ownBlock ∧ some k_ ≠ (u10 : Value).ownBlock ∧ k_ ≠ gb248 ∧ k_ ≠ gb262) (.slice Ao71 y277.length co71) y277) := ⟨h0_⟩
     have n1_ : Aside0 (Kd.R (Kd.int .i64) 3 w80 w.heap.size (fun k_ => some k_ ≠ (v286 : Value).ownBlock ∧ some k_ ≠ (u10 : Value).ownBlock ∧ some k_ ≠ (.slice Ao71 t269.length co71 : Value).ownBlock) v283 y282) := ⟨h1_⟩
     have n2_ : Aside0 (Kd.R (Kd.int .i64) 3 w80 w.heap.size (fun k_ => some k_ ≠ (v283 : Value).ownBlock ∧ some k_ ≠ (u10 : Value).ownBlock ∧ some k_ ≠ (.slice Ao71 t269.length co71 : Value).ownBlock) v286 y285) := ⟨h2_⟩
     have n3_ : Aside0 (Kd.V (Kd.int .i64) 3 w80 w.heap.size (fun k_ => some k_ ≠ (v283 : Value).ownBlock ∧ some k_ ≠ (v286 : Value).ownBlock ∧ some k_ ≠ (u10 : Value).ownBlock ∧ k_ ≠ gb248 ∧ k_ ≠ gb262) (.slice A74 y291.length c74) y291) := ⟨h3_⟩
     have n4_ : Aside0 (Kd.R (Kd.int .i64) 3 w80 w.heap.size (fun k_ => some k_ ≠ (v283 : Value).ownBlock ∧ some k_ ≠ (v286 : Value).ownBlock ∧ some k_ ≠ (.slice Ao71 t269.length co71 : Value).ownBlock) u10 x10_1) := ⟨h4_⟩
     have n5_ : Aside0 (Kd.R (Kd.int .i64) 3 w80 w.heap.size (fun k_ => some k_ ≠ (v283 : Value).ownBlock ∧ some k_ ≠ (v286 : Value).ownBlock ∧ some k_ ≠ (u10 : Value).ownBlock) (.slice Ao71 t269.length co71) t269) := ⟨h5_⟩
     have n6_ : Aside0 (w80.heap[gb248]? = some (.cells #[.int .i64 a1_0, .int .i64 a1_1, .slice (some ad261) l1_2.length c1_2] 65 (0, 0))) := ⟨h6_⟩
     have n7_ : Aside0 (w80.heap[gb262]? = some (.cells #[.int .i64 ((rd_T103 l1_2 t260).f0), .int .i64 ((rd_T103 l1_2 t260).f1), .int .i64 ((rd_T103 l1_2 t260).f2), .string ((rd_T103 l1_2 t260).f3), .slice A261_4 ((rd_T103 l1_2 t260).f4).length c261_4] 103 (0, 0))) := ⟨h7_⟩
     have n8_ : Aside0 (Below w.heap.size w w80) := ⟨h8_⟩
     clear HO_10
     clear HO_11
     clear BK248
     clear BK262
     clear HB
     clear h0_ h1_ h2_ h3_ h4_ h5_ h6_ h7_ h8_
     have HO281 := n0_
     have HO284 := n1_
     have HO287 := n2_
     have HO295 := n3_
     have HO_10 := n4_
     have HO_11 := n5_
     have BK248 := n6_
     have BK262 := n7_
     have HB := n8_
     clear n0_ n1_ n2_ n3_ n4_ n5_ n6_ n7_ n8_
     have hHeld : w80.cell? ⟨gb262, 0, none⟩ = some (.int .i64 ((rd_T103 l1_2 t260).f0)) ∧ w80.cell? ⟨gb262, 1, none⟩ = some (.int .i64 ((rd_T103 l1_2 t260).f1)) ∧ w80.cell? ⟨gb262, 2, none⟩ = some (.int .i64 ((rd_T103 l1_2 t260).f2)) ∧ w80.cell? ⟨gb262, 3, none⟩ = some (.string ((rd_T103 l1_2 t260).f3)) ∧ w80.cell? ⟨gb262, 4, none⟩ = some (.slice A261_4 ((rd_T103 l1_2 t260).f4).length c261_4) ∧ w80.cell? (ad273.add (((ji60)).toNat * 3)) = some (.string ((rd_T97 l0 (ji60)).f0)) ∧ w80.cell? ⟨(ad273.add (((ji60)).toNat * 3)).block, (ad273.add (((ji60)).toNat * 3)).off + 1, none⟩ = some (.bool ((rd_T97 l0 (ji60)).f1)) ∧ w80.cell? ⟨(ad273.add (((ji60)).toNat * 3)).block, (ad273.add (((ji60)).toNat * 3)).off + 2, none⟩ = some (.slice A273_2 ((rd_T97 l0 (ji60)).f2).length c273_2) := hS_
     obtain ⟨Ao82, co82, eo82⟩ := Kd.R_slice HO287.out
     (first | subst eo82 | (injection eo82 with f1_ f2_ f3_; have f4_ := f1_.symm; have f5_ := f3_.symm; clear f1_ f2_ f3_; subst f4_; subst f5_))
     refine norm_ (a' := ?_) ?_ ?_
     rotate_left
     ·simp only [putAll, Act.put, List.setIfInBounds_toArray, List.set_cons_zero, List.set_cons_succ]
      rfl
     refine one_ (i := 16) (N := some 90) (XW.bs 24 1048575) rfl rfl (one_of HT_.out (by kernel_rfl)) (by decide) (fun K hK => ?_)
     refine Kd.R_append_rows_step (Kd.int .i64) (w0 := w) w.heap.size (by rfl) (.tmp 87) (.tmp 89) 39 3 (.int .i64 0) 8 rfl Try.underlying39 info3 rfl (by decide) (by omega) v283 y282 y285 _ _ _ (fun k_ => some k_ ≠ (u10 : Value).ownBlock ∧ some k_ ≠ (.slice Ao71 t269.length co71 : Value).ownBlock ∧ some k_ ≠ (.slice Ao82 y285.length co82 : Value).ownBlock) (fun _ => False) rfl rfl ?aO ?aR (fun _ _ h => h) (fun _ h => h.elim) ?aF ?aB ?aS ?aL ?_
     (case aR => repeat (first | exact (Kd.R_reads' HO287.out).2.2 | (with_reducible first | refine Kd.C_alloc ?_ _ | refine Kd.C_drewN ?_ _ | refine Kd.C_drew ?_)))
     (case aB => exact Xi)
     (case aF => exact (fun k_ hk => ⟨Kd.fresh' (Kd.R_lt (Xq HO_10)) k_ hk, Kd.fresh' (Kd.R_lt (Xq HO_11)) k_ hk, Kd.fresh' (Kd.R_lt (Xq HO287)) k_ hk⟩))
     (case aO => exact (by (with_reducible repeat (first | apply Kd.R_alloc | apply Kd.R_drewN | apply Kd.R_drew)); exact Kd.R_mono HO284.out (fun _ hk => ⟨hk.2.1, ⟨hk.2.2, hk.1⟩⟩)))
     (case aS => exact (below_size Xi))
     (case aL => have := LMc66.out; omega)
     intro v289 w81 ho hb hg hat
     rw [← Ny288.out] at ho
     replace HO_10 := Aside0.mk (Kd.R_after (ok := (fun k_ => some k_ ≠ (.slice Ao71 t269.length co71 : Value).ownBlock ∧ some k_ ≠ (.slice Ao82 y285.length co82 : Value).ownBlock)) (by (with_reducible repeat (first | apply Kd.R_alloc | apply Kd.R_drewN | apply Kd.R_drew)); exact Kd.R_mono HO_10.out (fun _ hk => ⟨⟨hk.2.2, hk.2.1⟩, hk.1⟩)) hg hat)
     replace HO_11 := Aside0.mk (Kd.R_after (ok := (fun k_ => some k_ ≠ (u10 : Value).ownBlock ∧ some k_ ≠ (.slice Ao82 y285.length co82 : Value).ownBlock)) (by (with_reducible repeat (first | apply Kd.R_alloc | apply Kd.R_drewN | apply Kd.R_drew)); exact Kd.R_mono HO_11.out (fun _ hk => ⟨⟨hk.2.2, hk.2.1⟩, hk.1⟩)) hg hat)
     replace BK248 := Aside0.mk (blk_grown (g := gb248) (o := .cells #[.int .i64 a1_0, .int .i64 a1_1, .slice (some ad261) l1_2.length c1_2] 65 (0, 0)) (Xq' BK248) hg (Kd.R_ne HO284.out BK248.out (by decide)))
     replace BK262 := Aside0.mk (blk_grown (g := gb262) (o := .cells #[.int .i64 ((rd_T103 l1_2 t260).f0), .int .i64 ((rd_T103 l1_2 t260).f1), .int .i64 ((rd_T103 l1_2 t260).f2), .string ((rd_T103 l1_2 t260).f3), .slice A261_4 ((rd_T103 l1_2 t260).f4).length c261_4] 103 (0, 0)) (Xq' BK262) hg (Kd.R_ne HO284.out BK262.out (by decide)))
     replace HO281 := Aside0.mk (Kd.V_afterv (ok := (fun k_ => some k_ ≠ (u10 : Value).ownBlock ∧ some k_ ≠ (.slice Ao82 y285.length co82 : Value).ownBlock ∧ k_ ≠ gb248 ∧ k_ ≠ gb262)) (by (with_reducible repeat (first | apply Kd.V_alloc | apply Kd.V_drewN | apply Kd.V_drew)); exact Kd.V_mono HO281.out (fun _ hk => ⟨⟨hk.2.2.1, ⟨hk.2.1, ⟨hk.2.2.2.1, hk.2.2.2.2⟩⟩⟩, hk.1⟩)) hg hat)
     replace HO295 := Aside0.mk (Kd.V_afterv (ok := (fun k_ => some k_ ≠ (u10 : Value).ownBlock ∧ some k_ ≠ (.slice Ao82 y285.length co82 : Value).ownBlock ∧ k_ ≠ gb248 ∧ k_ ≠ gb262)) (by (with_reducible repeat (first | apply Kd.V_alloc | apply Kd.V_drewN | apply Kd.V_drew)); exact Kd.V_mono HO295.out (fun _ hk => ⟨⟨hk.2.2.1, ⟨hk.2.1, ⟨hk.2.2.2.1, hk.2.2.2.2⟩⟩⟩, hk.1⟩)) hg hat)
     replace HO287 := Aside0.mk (Kd.R_after (ok := (fun k_ => some k_ ≠ (u10 : Value).ownBlock ∧ some k_ ≠ (.slice Ao71 t269.length co71 : Value).ownBlock)) (by (with_reducible repeat (first | apply Kd.R_alloc | apply Kd.R_drewN | apply Kd.R_drew)); exact Kd.R_mono HO287.out (fun _ hk => ⟨⟨hk.2.1, hk.2.2⟩, hk.1⟩)) hg hat)
     replace HB := Aside0.mk (hb)
     have HO290 := Aside0.mk (ho)
     clear HO284
     clear ho hb hg hat
     refine hK.out _ _ ⟨(blk_cell BK262.out 0).trans rfl, (blk_cell BK262.out 1).trans rfl, (blk_cell BK262.out 2).trans rfl, (blk_cell BK262.out 3).trans rfl, (blk_cell BK262.out 4).trans rfl, Xn hw273_0, Xn hw273_1, Xn hw273_2⟩ (fun hHeld => ?_)
     clear hK K
     refine Xno ?_
     refine one_ (i := 20) (N := some 94) (XW.bs 24 2097151) rfl rfl (one_of HT_.out (by kernel_rfl)) (by decide) (fun K hK => ?_)
     refine Kd.R_append_rows_step (Kd.int .i64) (w0 := w) w.heap.size (by rfl) (.tmp 90) (.tmp 93) 39 3 (.int .i64 0) 8 rfl Try.underlying39 info3 rfl (by decide) (by omega) v289 y288 y291 _ _ _ (fun k_ => some k_ ≠ (u10 : Value).ownBlock ∧ some k_ ≠ (.slice Ao71 t269.length co71 : Value).ownBlock ∧ some k_ ≠ (.slice Ao82 y285.length co82 : Value).ownBlock) (fun _ => False) rfl rfl ?aO ?aR (fun _ _ h => h) (fun _ h => h.elim) ?aF ?aB ?aS ?aL ?_
     (case aR => repeat (first | exact (Kd.V_reads' HO295.out).2.2 | (with_reducible first | refine Kd.C_alloc ?_ _ | refine Kd.C_drewN ?_ _ | refine Kd.C_drew ?_)))
     (case aB => exact Xi)
     (case aF => exact (fun k_ hk => ⟨Kd.fresh' (Kd.R_lt (Xq HO_10)) k_ hk, Kd.fresh' (Kd.R_lt (Xq HO_11)) k_ hk, Kd.fresh' (Kd.R_lt (Xq HO287)) k_ hk⟩))
     (case aO => exact (Xq HO290))
     (case aS => exact (below_size Xi))
     (case aL => have := LMc69.out; omega)
     intro v297 w83 ho hb hg hat
     rw [← Ny296.out] at ho
     replace HO_10 := Aside0.mk (Kd.R_after (ok := (fun k_ => some k_ ≠ (.slice Ao71 t269.length co71 : Value).ownBlock ∧ some k_ ≠ (.slice Ao82 y285.length co82 : Value).ownBlock)) (Xq HO_10) hg hat)
     replace HO_11 := Aside0.mk (Kd.R_after (ok := (fun k_ => some k_ ≠ (u10 : Value).ownBlock ∧ some k_ ≠ (.slice Ao82 y285.length co82 : Value).ownBlock)) (Xq HO_11) hg hat)
     replace BK248 := Aside0.mk (blk_grown (g := gb248) (o := .cells #[.int .i64 a1_0, .int .i64 a1_1, .slice (some ad261) l1_2.length c1_2] 65 (0, 0)) (Xq' BK248) hg (Kd.R_ne HO290.out BK248.out (by decide)))
     replace BK262 := Aside0.mk (blk_grown (g := gb262) (o := .cells #[.int .i64 ((rd_T103 l1_2 t260).f0), .int .i64 ((rd_T103 l1_2 t260).f1), .int .i64 ((rd_T103 l1_2 t260).f2), .string ((rd_T103 l1_2 t260).f3), .slice A261_4 ((rd_T103 l1_2 t260).f4).length c261_4] 103 (0, 0)) (Xq' BK262) hg (Kd.R_ne HO290.out BK262.out (by decide)))
     replace HO281 := Aside0.mk (Kd.V_afterv (ok := (fun k_ => some k_ ≠ (u10 : Value).ownBlock ∧ some k_ ≠ (.slice Ao82 y285.length co82 : Value).ownBlock ∧ k_ ≠ gb248 ∧ k_ ≠ gb262)) (by (with_reducible repeat (first | apply Kd.V_alloc | apply Kd.V_drewN | apply Kd.V_drew)); exact HO281.out) hg hat)
     replace HO295 := Aside0.mk (Kd.V_afterv (ok := (fun k_ => some k_ ≠ (u10 : Value).ownBlock ∧ some k_ ≠ (.slice Ao82 y285.length co82 : Value).ownBlock ∧ k_ ≠ gb248 ∧ k_ ≠ gb262)) (by (with_reducible repeat (first | apply Kd.V_alloc | apply Kd.V_drewN | apply Kd.V_drew)); exact HO295.out) hg hat)
     replace HO287 := Aside0.mk (Kd.R_after (ok := (fun k_ => some k_ ≠ (u10 : Value).ownBlock ∧ some k_ ≠ (.slice Ao71 t269.length co71 : Value).ownBlock)) (Xq HO287) hg hat)
     replace HB := Aside0.mk (hb)
     have HO298 := Aside0.mk (ho)
     clear HO290
     clear ho hb hg hat
     obtain ⟨Ao84, co84, eo84⟩ := Kd.R_slice HO298.out
     (first | subst eo84 | (injection eo84 with f1_ f2_ f3_; have f4_ := f1_.symm; have f5_ := f3_.symm; clear f1_ f2_ f3_; subst f4_; subst f5_))
     refine hK.out _ _ ⟨(blk_cell BK262.out 0).trans rfl, (blk_cell BK262.out 1).trans rfl, (blk_cell BK262.out 2).trans rfl, (blk_cell BK262.out 3).trans rfl, (blk_cell BK262.out 4).trans rfl, Xn hw273_0, Xn hw273_1, Xn hw273_2⟩ (fun hHeld => ?_)
     clear hK K
     refine Xno ?_
     refine one_ (i := 21) (N := some 95) (XW.bs 24 4194303) rfl rfl (one_of HT_.out (by kernel_rfl)) (by decide) (fun K hK => ?_)
     refine goes_ Try.func77 (by kernel_rfl) rfl #[.slice A273_2 ((rd_T97 l0 (ji60)).f2).length c273_2, .slice Ao84 y296.length co84] (by rfl) rfl rfl (by (try simp only [List.map_toArray, List.map_cons, List.map_nil]); first | done | (simp only [hji60]; rfl) | rfl | (simp only [List.length_drop, List.length_take]; rfl)) ?_
     with_reducible refine (spec_l03Match.calls k3 _ _ ((rd_T97 l0 (ji60)).f2) _ _ y296 t299 _ ?side1 ?side2 ?side3 ?side4 A70.out).mono ?_
     (case side1 => exact Xc HR273_2)
     (case side2 => exact HC273_2.out)
     (case side3 => repeat (first | exact (Kd.R_reads' HO298.out).2.2 | (with_reducible first | refine Kd.C_alloc ?_ _ | refine Kd.C_drewN ?_ _ | refine Kd.C_drew ?_)))
     (case side4 => exact (Kd.R_reads' HO298.out).2.1)
     rintro e w85 ⟨rfl, hb⟩
     refine ⟨_, rfl, ?_⟩
     replace HO_10 := Aside0.mk (Kd.R_below (Xq HO_10) hb)
     replace HO_11 := Aside0.mk (Kd.R_below (Xq HO_11) hb)
     replace HO281 := Aside0.mk (Kd.V_below (by (with_reducible repeat (first | apply Kd.V_alloc | apply Kd.V_drewN | apply Kd.V_drew)); exact HO281.out) hb)
     replace HO295 := Aside0.mk (Kd.V_below (by (with_reducible repeat (first | apply Kd.V_alloc | apply Kd.V_drewN | apply Kd.V_drew)); exact HO295.out) hb)
     replace HO287 := Aside0.mk (Kd.R_below (Xq HO287) hb)
     replace HO298 := Aside0.mk (Kd.R_below (Xq HO298) hb)
     replace BK248 := Xbb BK248 hb
     replace BK262 := Xbb BK262 hb
     replace HB := Aside0.mk (below_step Xi hb)
     (try clear hb)
     (try clear hb2)
     (try clear hk)
     (try clear hi)
     refine hK.out _ _ ⟨(blk_cell BK262.out 0).trans rfl, (blk_cell BK262.out 1).trans rfl, (blk_cell BK262.out 2).trans rfl, (blk_cell BK262.out 3).trans rfl, (blk_cell BK262.out 4).trans rfl, Xn hw273_0, Xn hw273_1, Xn hw273_2⟩ (fun hHeld => ?_)
     clear hK K
     refine Xno ?_
     refine Xpu 22 96 (XW.bs 24 8388607) HT_.out ?_
     refine Xpu 23 13 (XW.bs 24 16777215) HT_.out ?_
     refine done_ (done_of HT_.out (by kernel_rfl)) ?_
     try go_wp2_with (fail)
     go_roundg k3
     case measure => have := HK1.out; have := HJ42.out; have := HK3.out; omega
     case rel => exact ⟨(t299), (wrap64 (x14_3 + 1)), Xr, Xr, H', ⟨by have := HK1.out; have := HJ42.out; have := HK3.out; omega⟩, ⟨by (with_reducible repeat (first | apply Kd.R_alloc | apply Kd.R_drewN | apply Kd.R_drew)); exact Kd.R_mono HO_10.out (fun _ hk => hk.1.1)⟩, ⟨by (with_reducible repeat (first | apply Kd.R_alloc | apply Kd.R_drewN | apply Kd.R_drew)); exact Kd.R_mono HO_11.out (fun _ hk => hk.1.1)⟩, (Xp BK248), (Xp BK262), ⟨Xi⟩⟩
    by_cases c86 : x13_3 = true
    ·subst c86
     (first | rw [if_pos rfl] at H | skip)
     obtain ⟨y300, hy300⟩ : ∃ y_ : List Int, y_ = (([x12_1] : List Int)) := ⟨_, rfl⟩
     replace H : (if x10_1.length + y300.length < 17592186044416 then (spec_MayInsert.l0 k3 l0 (x10_1 ++ y300) t269 (wrap64 (x12_1 + 1)) ((rd_T103 l1_2 t260).f0) ((rd_T103 l1_2 t260).f1) ((rd_T103 l1_2 t260).f2) ((rd_T103 l1_2 t260).f3) ((rd_T103 l1_2 t260).f4)) else (none)) = some (r1, r2) := by first | (rw [hy300]; with_reducible exact H) | (have H2_ := (Option.bind_some _ _).symm.trans H; rw [hy300]; with_reducible exact H2_) | (have H2_ := (Option.bind_some _ _).symm.trans H; with_reducible exact H2_) | with_reducible exact H | (rw [hy300]; exact H) | exact H
     have Ny300 := Aside0.mk hy300
     clear hy300
     obtain ⟨c87, H⟩ := Xif H
     have LMc87 := Aside0.mk c87
     clear c87
     obtain ⟨y303, hy303⟩ : ∃ y_ : List Int, y_ = (x10_1 ++ y300) := ⟨_, rfl⟩
     replace H : (spec_MayInsert.l0 k3 l0 y303 t269 (wrap64 (x12_1 + 1)) ((rd_T103 l1_2 t260).f0) ((rd_T103 l1_2 t260).f1) ((rd_T103 l1_2 t260).f2) ((rd_T103 l1_2 t260).f3) ((rd_T103 l1_2 t260).f4)) = some (r1, r2) := by first | (rw [hy303]; with_reducible exact H) | (have H2_ := (Option.bind_some _ _).symm.trans H; rw [hy303]; with_reducible exact H2_) | (have H2_ := (Option.bind_some _ _).symm.trans H; with_reducible exact H2_) | with_reducible exact H | (rw [hy303]; exact H) | exact H
     have Ny303 := Aside0.mk hy303
     clear hy303
     have H' := Aside0.mk H
     clear H
     obtain ⟨Ao88, co88, eo88⟩ := Kd.R_slice HO_11.out
     subst eo88
     go_wp2_with (first | ((with_reducible refine gate_dst (N := 100) rfl ?_); (try (refine gate_guard (by rfl) ?_; dsimp only)); refine Kd.R_lit (Kd.int .i64) _ 3 ?hg (N := 100) ?hd (xs := ([x12_1] : List Int)) (inner := [.int .i64 x12_1]) (ok := fun _ => True) (okp := fun _ => True) ?hr ?hp (fun _ hk => hk) trivial (Below.refl _ _) (Nat.le_refl _) (by simp) ?_; (case hd => rfl); (case hg => rfl); (case hr => first | (go_simp; done) | (go_simp; rfl)); (case hp => exact (Reps.one (show Kd.M (Kd.int .i64) _ _ _ x12_1 [.int .i64 x12_1] from rfl) (Reps.none _ _))); intro v301 w89 ho90 hb hg_ hnew_; clear hg_ hnew_; (first | rw [← Ny300.out] at ho90 | (simp only [Int.reduceToNat] at ho90; rw [← Ny300.out] at ho90)); have HO302 := Aside0.mk (Kd.R_lower (Kd.R_new' (Kd.R_new' ho90 (Kd.R_lt (Xq HO_10))) (Kd.R_lt (Xq HO_11))) (below_size Xi)); replace HO_10 := Aside0.mk (Kd.R_elder' (Xq HO_10) (Kd.R_base ho90) hb); replace HO_11 := Aside0.mk (Kd.R_elder' (Xq HO_11) (Kd.R_base ho90) hb); replace BK248 := Xbb BK248 hb; replace BK262 := Xbb BK262 hb; replace HB := Aside0.mk (below_step Xi hb); clear hb ho90; obtain ⟨Ao92, co92, eo92⟩ := Kd.R_slice HO302.out; subst eo92) | ((with_reducible refine gate_builtin (b := .append) (xs := #[.tmp 98, .tmp 100]) rfl ?_); (try (refine gate_guard (by rfl) ?_; dsimp only)); at_builtin; refine Kd.R_append_rows (Kd.int .i64) (w0 := w) w.heap.size rfl (.tmp 98) (.tmp 100) 39 3 (.int .i64 0) 8 rfl Try.underlying39 info3 rfl (by decide) (by omega) u10 x10_1 y300 _ _ _ (fun k_ => some k_ ≠ (.slice Ao88 t269.length co88 : Value).ownBlock ∧ some k_ ≠ (.slice Ao92 y300.length co92 : Value).ownBlock) (fun _ => False) rfl rfl ?aO ?aR (fun _ _ h => h) (fun _ h => h.elim) ?aF ?aB ?aS ?aL ?_; (case aR => repeat (first | exact (Kd.R_reads' HO302.out).2.2 | (with_reducible first | refine Kd.C_alloc ?_ _ | refine Kd.C_drewN ?_ _ | refine Kd.C_drew ?_))); (case aB => exact Xi); (case aF => exact (fun k_ hk => ⟨Kd.fresh' (Kd.R_lt (Xq HO_11)) k_ hk, Kd.fresh' (Kd.R_lt (Xq HO302)) k_ hk⟩)); (case aO => exact (Xq HO_10)); (case aS => exact (below_size Xi)); (case aL => have := LMc87.out; omega); intro v304 w91 ho hb hg hat; rw [← Ny303.out] at ho; replace HO_11 := Aside0.mk (Kd.R_after (ok := (fun k_ => some k_ ≠ (.slice Ao92 y300.length co92 : Value).ownBlock)) (by (with_reducible repeat (first | apply Kd.R_alloc | apply Kd.R_drewN | apply Kd.R_drew)); exact Kd.R_mono HO_11.out (fun _ hk => ⟨hk.2, hk.1⟩)) hg hat); replace BK248 := Aside0.mk (blk_grown (g := gb248) (o := .cells #[.int .i64 a1_0, .int .i64 a1_1, .slice (some ad261) l1_2.length c1_2] 65 (0, 0)) (Xq' BK248) hg (Kd.R_ne HO_10.out BK248.out (by decide))); replace BK262 := Aside0.mk (blk_grown (g := gb262) (o := .cells #[.int .i64 ((rd_T103 l1_2 t260).f0), .int .i64 ((rd_T103 l1_2 t260).f1), .int .i64 ((rd_T103 l1_2 t260).f2), .string ((rd_T103 l1_2 t260).f3), .slice A261_4 ((rd_T103 l1_2 t260).f4).length c261_4] 103 (0, 0)) (Xq' BK262) hg (Kd.R_ne HO_10.out BK262.out (by decide))); replace HO302 := Aside0.mk (Kd.R_after (ok := (fun k_ => some k_ ≠ (.slice Ao88 t269.length co88 : Value).ownBlock)) (by (with_reducible repeat (first | apply Kd.R_alloc | apply Kd.R_drewN | apply Kd.R_drew)); exact Kd.R_mono HO302.out (fun _ hk => ⟨hk.2, hk.1.2⟩)) hg hat); replace HB := Aside0.mk (hb); have HO305 := Aside0.mk (ho); clear HO_10; clear ho hb hg hat))
     go_roundg k3
     case measure => have := HK1.out; have := HJ42.out; have := HK3.out; omega
     case rel => exact ⟨(y303), (wrap64 (x12_1 + 1)), Xr, H', ⟨by have := HK1.out; have := HJ42.out; have := HK3.out; omega⟩, ⟨by (with_reducible repeat (first | apply Kd.R_alloc | apply Kd.R_drewN | apply Kd.R_drew)); exact Kd.R_mono HO305.out (fun _ hk => hk.1)⟩, ⟨by (with_reducible repeat (first | apply Kd.R_alloc | apply Kd.R_drewN | apply Kd.R_drew)); exact Kd.R_mono HO_11.out (fun _ hk => hk.2)⟩, (Xp BK248), (Xp BK262), ⟨Xi⟩⟩
    replace c86 := Bool.eq_false_iff.mpr c86
    subst c86
    (first | rw [if_neg (show ¬ (false = true) by decide)] at H | skip)
    have H' := Aside0.mk H
    clear H
    obtain ⟨Ao93, co93, eo93⟩ := Kd.R_slice HO_11.out
    subst eo93
    go_wp2
    go_roundg k3
    case measure => have := HK1.out; have := HJ42.out; have := HK3.out; omega
    case rel => exact ⟨(x10_1), (wrap64 (x12_1 + 1)), Xr, H', ⟨by have := HK1.out; have := HJ42.out; have := HK3.out; omega⟩, (Xp' HO_10), (Xp' HO_11), (Xp BK248), (Xp BK262), ⟨Xi⟩⟩
   replace c55 := Bool.eq_false_iff.mpr c55
   subst c55
   (first | rw [if_neg (show ¬ (false = true) by decide)] at H | skip)
   simp only [Option.some.injEq, Prod.mk.injEq] at H
   obtain ⟨rfl, rfl⟩ := H
   go_wp2
   go_ret2
   exact ⟨_, Xe, by (with_reducible repeat (first | apply Kd.R_alloc | apply Kd.R_drewN | apply Kd.R_drew)); exact Kd.R_mono HO_10.out (fun _ hk => trivial), Xi⟩
  have c17b0 : (t256 == 0) = false := beq_eq_false_iff_ne.mpr c17
  have c17b1 : (t256 != 0) = true := bne_iff_ne.mpr c17
  (first | rw [c17b0] | (simp only [i64_w, i32_w]; rw [c17b0]) | skip)
  obtain ⟨y257, hy257⟩ : ∃ y_ : List Int, y_ = (([] : List Int)) := ⟨_, rfl⟩
  replace H : (some (y257, t256)) = some (r1, r2) := by first | (rw [hy257]; with_reducible exact H) | (have H2_ := (Option.bind_some _ _).symm.trans H; rw [hy257]; with_reducible exact H2_) | (have H2_ := (Option.bind_some _ _).symm.trans H; with_reducible exact H2_) | with_reducible exact H | (rw [hy257]; exact H) | exact H
  have Ny257 := Aside0.mk hy257
  clear hy257
  simp only [Option.some.injEq, Prod.mk.injEq] at H
  obtain ⟨rfl, rfl⟩ := H
  go_wp2_with (first | ((with_reducible refine gate_dst (N := 28) rfl ?_); (try (refine gate_guard (by rfl) ?_; dsimp only)); refine Kd.R_lit (Kd.int .i64) _ 3 ?hg (N := 28) ?hd (xs := ([] : List Int)) (inner := []) (ok := fun _ => True) (okp := fun _ => True) ?hr ?hp (fun _ hk => hk) trivial (Below.refl _ _) (Nat.le_refl _) (by simp) ?_; (case hd => rfl); (case hg => rfl); (case hr => first | (go_simp; done) | (go_simp; rfl)); (case hp => exact (Reps.none _ _)); intro v258 w94 ho95 hb hg_ hnew_; clear hg_ hnew_; (first | rw [← Ny257.out] at ho95 | (simp only [Int.reduceToNat] at ho95; rw [← Ny257.out] at ho95)); have HO259 := Aside0.mk (Kd.R_lower ho95 (below_size Xi)); replace BK248 := Xbb BK248 hb; replace HB := Aside0.mk (below_step Xi hb); clear hb ho95))
  go_ret2
  exact ⟨_, Xe, Xq HO259, Xi⟩
 replace c12 := Bool.eq_false_iff.mpr c12
 subst c12
 (first | rw [if_neg (show ¬ (false = true) by decide)] at H | skip)
 obtain ⟨y253, hy253⟩ : ∃ y_ : List Int, y_ = (([] : List Int)) := ⟨_, rfl⟩
 replace H : (some (y253, 1)) = some (r1, r2) := by first | (rw [hy253]; with_reducible exact H) | (have H2_ := (Option.bind_some _ _).symm.trans H; rw [hy253]; with_reducible exact H2_) | (have H2_ := (Option.bind_some _ _).symm.trans H; with_reducible exact H2_) | with_reducible exact H | (rw [hy253]; exact H) | exact H
 have Ny253 := Aside0.mk hy253
 clear hy253
 simp only [Option.some.injEq, Prod.mk.injEq] at H
 obtain ⟨rfl, rfl⟩ := H
 go_wp2_with (first | ((with_reducible refine gate_dst (N := 22) rfl ?_); (try (refine gate_guard (by rfl) ?_; dsimp only)); refine Kd.R_lit (Kd.int .i64) _ 3 ?hg (N := 22) ?hd (xs := ([] : List Int)) (inner := []) (ok := fun _ => True) (okp := fun _ => True) ?hr ?hp (fun _ hk => hk) trivial (Below.refl _ _) (Nat.le_refl _) (by simp) ?_; (case hd => rfl); (case hg => rfl); (case hr => first | (go_simp; done) | (go_simp; rfl)); (case hp => exact (Reps.none _ _)); intro v254 w96 ho97 hb hg_ hnew_; clear hg_ hnew_; (first | rw [← Ny253.out] at ho97 | (simp only [Int.reduceToNat] at ho97; rw [← Ny253.out] at ho97)); have HO255 := Aside0.mk (Kd.R_lower ho97 (below_size Xi)); replace BK248 := Xbb BK248 hb; replace HB := Aside0.mk (below_step Xi hb); clear hb ho97))
 go_ret2
 exact ⟨_, Xe, Xq HO255, Xi⟩
def laws_toNode.f (k : Nat) (a0_0 : Int) (a0_1 : Int) (a0_2 : Int) (a0_3 : ByteArray) (l0_4 : List Int) : Option (Int × Int × Int × ByteArray × List Int) := (laws_toIntS.f k l0_4).bind fun t309 => (some (a0_0, a0_1, a0_2, a0_3, t309))
theorem laws_toNode.calls (k : Nat) (a0_0 : Int) (a0_1 : Int) (a0_2 : Int) (a0_3 : ByteArray) (A0_4 : Option Addr) (c0_4 : Nat) (l0_4 : List Int) (r1 : Int) (r2 : Int) (r3 : Int) (r4 : ByteArray) (r5 : List Int) (w : World) (hr0_4 : Kd.C (Kd.int .i64) w A0_4 l0_4.length l0_4) (hc0_4 : l0_4.length ≤ c0_4) (h : laws_toNode.f k a0_0 a0_1 a0_2 a0_3 l0_4 = some (r1, r2, r3, r4, r5)) :
  Calls Try.prog 120 #[.agg #[.int .i64 a0_0, .int .i64 a0_1, .int .i64 a0_2, .string a0_3, .slice A0_4 l0_4.length c0_4]] w fun e w' => ∃ v4_ : Value, e = .returned (.agg #[.int .i64 r1, .int .i64 r2, .int .i64 r3, .string r4, v4_]) ∧ Kd.R (Kd.int .i64) 3 w' w.heap.size (fun _ => True) v4_ r5 ∧ Below w.heap.size w w' := by
 have hu142 := Try.underlying142
 have hu103 := Try.underlying103
 have HR0_4 := Aside0.mk hr0_4
 have HC0_4 := Aside0.mk hc0_4
 clear hr0_4 hc0_4
 have HB := Aside0.mk (Below.refl w.heap.size w)
 have H : ((laws_toIntS.f k l0_4).bind fun t309 => (some (a0_0, a0_1, a0_2, a0_3, t309))) = some (r1, r2, r3, r4, r5) := h
 clear h
 obtain ⟨t309, A2, H⟩ := Xbi H
 (try dsimp only at H)
 simp only [Option.some.injEq, Prod.mk.injEq] at H
 obtain ⟨rfl, rfl, rfl, rfl, rfl⟩ := H
 go_enter Try.func120, Try.ntmps120
 go_wp2_with (first | ((with_reducible refine gate_dst (N := 1) rfl ?_); refine Xbox 1 #[.int .i64 a0_0, .int .i64 a0_1, .int .i64 a0_2, .string a0_3, .slice A0_4 l0_4.length c0_4] 142 ?_; intro gb306 hg w3 hbox hb; have BK306 := Aside0.mk (hbox); have GE306 := Xge hg Xi; replace HB := Aside0.mk (below_step Xi hb); clear hb hbox hg) | ((with_reducible refine gate_dst (N := 2) rfl ?_); refine Xbox 2 #[.int .i64 0, .int .i64 0, .int .i64 0, .string (⟨#[]⟩ : ByteArray), .slice none 0 0] 103 ?_; intro gb307 hg w4 hbox hb; have BK307 := Aside0.mk (hbox); have GE307 := Xge hg Xi; replace HB := Aside0.mk (below_step Xi hb); have NB306_307 := Xnb hg BK306; have NB307_306 := Xns NB306_307; replace BK306 := Xbb BK306 hb; clear hb hbox hg) | ((with_reducible refine gate_dst (N := 3) rfl ?_); refine Xbox 3 #[.int .i64 0, .int .i64 0, .int .i64 0, .string (⟨#[]⟩ : ByteArray), .slice none 0 0] 103 ?_; intro gb308 hg w5 hbox hb; have BK308 := Aside0.mk (hbox); have GE308 := Xge hg Xi; replace HB := Aside0.mk (below_step Xi hb); have NB306_308 := Xnb hg BK306; have NB308_306 := Xns NB306_308; replace BK306 := Xbb BK306 hb; have NB307_308 := Xnb hg BK307; have NB308_307 := Xns NB307_308; replace BK307 := Xbb BK307 hb; clear hb hbox hg; have hnb6 := NB306_307.out; have hnc6 := NB307_306.out; have hnb7 := NB306_308.out; have hnc7 := NB308_306.out; obtain ⟨hcz8_0, hcz8_1, hcz8_2, hcz8_3, hcz8_4⟩ := Xc5 BK306; obtain ⟨hfz8_0, hfz8_1, hfz8_2, hfz8_3, hfz8_4⟩ := Xf5 BK306; have hnb9 := NB308_307.out; have hnc9 := NB307_308.out; obtain ⟨hcz10_0, hcz10_1, hcz10_2, hcz10_3, hcz10_4⟩ := Xc5 BK308; obtain ⟨hfz10_0, hfz10_1, hfz10_2, hfz10_3, hfz10_4⟩ := Xf5 BK308) | ((with_reducible refine gate_callee (f := 97) rfl ?_); refine Xgo 18 Try.func97 #[.slice A0_4 l0_4.length c0_4] ?_; (with_reducible refine (laws_toIntS.calls k _ _ l0_4 t309 _ ?side1 ?side2 A2.out).mono ?_); (case side1 => exact Xc HR0_4); (case side2 => exact HC0_4.out); rintro e w11 ⟨v310, rfl, ho0, hb⟩; refine ⟨_, rfl, ?_⟩; have HO311 := Aside0.mk (Kd.R_lower ho0 (below_size Xi)); replace BK306 := Aside0.mk (blk_below (g := gb306) (o := .cells #[.int .i64 a0_0, .int .i64 a0_1, .int .i64 a0_2, .string a0_3, .slice A0_4 l0_4.length c0_4] 142 (0, 0)) (by (with_reducible repeat (first | refine blk_drewN ?_ _ | refine blk_drew ?_ | refine blk_alloc ?_ _)); refine blk_far ?_ NB306_308.out _; (with_reducible repeat (first | refine blk_drewN ?_ _ | refine blk_drew ?_ | refine blk_alloc ?_ _)); refine blk_far ?_ NB306_308.out _; (with_reducible repeat (first | refine blk_drewN ?_ _ | refine blk_drew ?_ | refine blk_alloc ?_ _)); refine blk_far ?_ NB306_308.out _; (with_reducible repeat (first | refine blk_drewN ?_ _ | refine blk_drew ?_ | refine blk_alloc ?_ _)); refine blk_far ?_ NB306_308.out _; (with_reducible repeat (first | refine blk_drewN ?_ _ | refine blk_drew ?_ | refine blk_alloc ?_ _)); exact BK306.out) hb); replace BK307 := Aside0.mk (blk_below (g := gb307) (o := .cells #[.int .i64 0, .int .i64 0, .int .i64 0, .string (⟨#[]⟩ : ByteArray), .slice none 0 0] 103 (0, 0)) (by (with_reducible repeat (first | refine blk_drewN ?_ _ | refine blk_drew ?_ | refine blk_alloc ?_ _)); refine blk_far ?_ NB307_308.out _; (with_reducible repeat (first | refine blk_drewN ?_ _ | refine blk_drew ?_ | refine blk_alloc ?_ _)); refine blk_far ?_ NB307_308.out _; (with_reducible repeat (first | refine blk_drewN ?_ _ | refine blk_drew ?_ | refine blk_alloc ?_ _)); refine blk_far ?_ NB307_308.out _; (with_reducible repeat (first | refine blk_drewN ?_ _ | refine blk_drew ?_ | refine blk_alloc ?_ _)); refine blk_far ?_ NB307_308.out _; (with_reducible repeat (first | refine blk_drewN ?_ _ | refine blk_drew ?_ | refine blk_alloc ?_ _)); exact BK307.out) hb); replace BK308 := Aside0.mk (blk_below (g := gb308) (o := .cells #[.int .i64 a0_0, .int .i64 a0_1, .int .i64 a0_2, .string a0_3, .slice none 0 0] 103 (0, 0)) (by (with_reducible repeat (first | refine blk_drewN ?_ _ | refine blk_drew ?_ | refine blk_alloc ?_ _)); refine blk_put (cs := #[.int .i64 a0_0, .int .i64 a0_1, .int .i64 a0_2, .string (⟨#[]⟩ : ByteArray), .slice none 0 0]) ?_ 3 _ rfl; (with_reducible repeat (first | refine blk_drewN ?_ _ | refine blk_drew ?_ | refine blk_alloc ?_ _)); refine blk_put (cs := #[.int .i64 a0_0, .int .i64 a0_1, .int .i64 0, .string (⟨#[]⟩ : ByteArray), .slice none 0 0]) ?_ 2 _ rfl; (with_reducible repeat (first | refine blk_drewN ?_ _ | refine blk_drew ?_ | refine blk_alloc ?_ _)); refine blk_put (cs := #[.int .i64 a0_0, .int .i64 0, .int .i64 0, .string (⟨#[]⟩ : ByteArray), .slice none 0 0]) ?_ 1 _ rfl; (with_reducible repeat (first | refine blk_drewN ?_ _ | refine blk_drew ?_ | refine blk_alloc ?_ _)); refine blk_put (cs := #[.int .i64 0, .int .i64 0, .int .i64 0, .string (⟨#[]⟩ : ByteArray), .slice none 0 0]) ?_ 0 _ rfl; (with_reducible repeat (first | refine blk_drewN ?_ _ | refine blk_drew ?_ | refine blk_alloc ?_ _)); exact BK308.out) hb); replace HB := Aside0.mk (below_step Xi hb); clear hb; (try clear ho0); obtain ⟨Ao12, co12, eo12⟩ := Kd.R_slice HO311.out; subst eo12; obtain ⟨hcz13_0, hcz13_1, hcz13_2, hcz13_3, hcz13_4⟩ := Xc5 BK308; obtain ⟨hfz13_0, hfz13_1, hfz13_2, hfz13_3, hfz13_4⟩ := Xf5 BK308; obtain ⟨hcz14_0, hcz14_1, hcz14_2, hcz14_3, hcz14_4⟩ := Xc5 BK307; obtain ⟨hfz14_0, hfz14_1, hfz14_2, hfz14_3, hfz14_4⟩ := Xf5 BK307) | ((with_reducible refine gate_store (t := 103) (p := 2) rfl ?_); refine store_event (t := 103) (p := 2) (v := ?vo_w15) (w1 := ((((((w11.setCell ⟨gb308, 4, none⟩ (.slice Ao12 t309.length co12)).setCell ⟨gb307, 0, none⟩ (.int .i64 a0_0)).setCell ⟨gb307, 1, none⟩ (.int .i64 a0_1)).setCell ⟨gb307, 2, none⟩ (.int .i64 a0_2)).setCell ⟨gb307, 3, none⟩ (.string a0_3)).setCell ⟨gb307, 4, none⟩ (.slice Ao12 t309.length co12))) ?hg ?ho ?hn ?hr ?_; (case ho => rfl); (case hg => rfl); (case hn => rfl); (case hr => first | (go_simp; done) | (go_simp; rfl)); intro w15 hw; have n0_ : Aside0 (Kd.R (Kd.int .i64) 3 w15 w.heap.size (fun _ => True) (.slice Ao12 t309.length co12) t309) := ⟨(by rw [hw]; exact (by (with_reducible repeat (first | apply Kd.R_alloc | apply Kd.R_drewN | apply Kd.R_drew)); exact Kd.R_mono (Kd.R_far (p := ⟨gb307, 4, none⟩) (Kd.R_far (p := ⟨gb307, 3, none⟩) (Kd.R_far (p := ⟨gb307, 2, none⟩) (Kd.R_far (p := ⟨gb307, 1, none⟩) (Kd.R_far (p := ⟨gb307, 0, none⟩) (Kd.R_far (p := ⟨gb308, 4, none⟩) (Kd.R_types (Kd.R_types HO311.out BK308.out (by decide)) BK307.out (by decide)) (fun _ hk => hk.1.2) (.slice Ao12 t309.length co12)) (fun _ hk => hk.2) (.int .i64 a0_0)) (fun _ hk => hk.2) (.int .i64 a0_1)) (fun _ hk => hk.2) (.int .i64 a0_2)) (fun _ hk => hk.2) (.string a0_3)) (fun _ hk => hk.2) (.slice Ao12 t309.length co12)) (fun _ hk => trivial)))⟩; have n1_ : Aside0 (w15.heap[gb306]? = some (.cells #[.int .i64 a0_0, .int .i64 a0_1, .int .i64 a0_2, .string a0_3, .slice A0_4 l0_4.length c0_4] 142 (0, 0))) := ⟨(by rw [hw]; exact (by (with_reducible repeat (first | refine blk_drewN ?_ _ | refine blk_drew ?_ | refine blk_alloc ?_ _)); refine blk_far ?_ NB306_307.out _; (with_reducible repeat (first | refine blk_drewN ?_ _ | refine blk_drew ?_ | refine blk_alloc ?_ _)); refine blk_far ?_ NB306_307.out _; (with_reducible repeat (first | refine blk_drewN ?_ _ | refine blk_drew ?_ | refine blk_alloc ?_ _)); refine blk_far ?_ NB306_307.out _; (with_reducible repeat (first | refine blk_drewN ?_ _ | refine blk_drew ?_ | refine blk_alloc ?_ _)); refine blk_far ?_ NB306_307.out _; (with_reducible repeat (first | refine blk_drewN ?_ _ | refine blk_drew ?_ | refine blk_alloc ?_ _)); refine blk_far ?_ NB306_307.out _; (with_reducible repeat (first | refine blk_drewN ?_ _ | refine blk_drew ?_ | refine blk_alloc ?_ _)); refine blk_far ?_ NB306_308.out _; (with_reducible repeat (first | refine blk_drewN ?_ _ | refine blk_drew ?_ | refine blk_alloc ?_ _)); exact BK306.out))⟩; have n2_ : Aside0 (w15.heap[gb307]? = some (.cells #[.int .i64 a0_0, .int .i64 a0_1, .int .i64 a0_2, .string a0_3, .slice Ao12 t309.length co12] 103 (0, 0))) := ⟨(by rw [hw]; exact (by (with_reducible repeat (first | refine blk_drewN ?_ _ | refine blk_drew ?_ | refine blk_alloc ?_ _)); refine blk_put (cs := #[.int .i64 a0_0, .int .i64 a0_1, .int .i64 a0_2, .string a0_3, .slice none 0 0]) ?_ 4 _ rfl; (with_reducible repeat (first | refine blk_drewN ?_ _ | refine blk_drew ?_ | refine blk_alloc ?_ _)); refine blk_put (cs := #[.int .i64 a0_0, .int .i64 a0_1, .int .i64 a0_2, .string (⟨#[]⟩ : ByteArray), .slice none 0 0]) ?_ 3 _ rfl; (with_reducible repeat (first | refine blk_drewN ?_ _ | refine blk_drew ?_ | refine blk_alloc ?_ _)); refine blk_put (cs := #[.int .i64 a0_0, .int .i64 a0_1, .int .i64 0, .string (⟨#[]⟩ : ByteArray), .slice none 0 0]) ?_ 2 _ rfl; (with_reducible repeat (first | refine blk_drewN ?_ _ | refine blk_drew ?_ | refine blk_alloc ?_ _)); refine blk_put (cs := #[.int .i64 a0_0, .int .i64 0, .int .i64 0, .string (⟨#[]⟩ : ByteArray), .slice none 0 0]) ?_ 1 _ rfl; (with_reducible repeat (first | refine blk_drewN ?_ _ | refine blk_drew ?_ | refine blk_alloc ?_ _)); refine blk_put (cs := #[.int .i64 0, .int .i64 0, .int .i64 0, .string (⟨#[]⟩ : ByteArray), .slice none 0 0]) ?_ 0 _ rfl; (with_reducible repeat (first | refine blk_drewN ?_ _ | refine blk_drew ?_ | refine blk_alloc ?_ _)); refine blk_far ?_ NB307_308.out _; (with_reducible repeat (first | refine blk_drewN ?_ _ | refine blk_drew ?_ | refine blk_alloc ?_ _)); exact BK307.out))⟩; have n3_ : Aside0 (w15.heap[gb308]? = some (.cells #[.int .i64 a0_0, .int .i64 a0_1, .int .i64 a0_2, .string a0_3, .slice Ao12 t309.length co12] 103 (0, 0))) := ⟨(by rw [hw]; exact (by (with_reducible repeat (first | refine blk_drewN ?_ _ | refine blk_drew ?_ | refine blk_alloc ?_ _)); refine blk_far ?_ NB308_307.out _; (with_reducible repeat (first | refine blk_drewN ?_ _ | refine blk_drew ?_ | refine blk_alloc ?_ _)); refine blk_far ?_ NB308_307.out _; (with_reducible repeat (first | refine blk_drewN ?_ _ | refine blk_drew ?_ | refine blk_alloc ?_ _)); refine blk_far ?_ NB308_307.out _; (with_reducible repeat (first | refine blk_drewN ?_ _ | refine blk_drew ?_ | refine blk_alloc ?_ _)); refine blk_far ?_ NB308_307.out _; (with_reducible repeat (first | refine blk_drewN ?_ _ | refine blk_drew ?_ | refine blk_alloc ?_ _)); refine blk_far ?_ NB308_307.out _; (with_reducible repeat (first | refine blk_drewN ?_ _ | refine blk_drew ?_ | refine blk_alloc ?_ _)); refine blk_put (cs := #[.int .i64 a0_0, .int .i64 a0_1, .int .i64 a0_2, .string a0_3, .slice none 0 0]) ?_ 4 _ rfl; (with_reducible repeat (first | refine blk_drewN ?_ _ | refine blk_drew ?_ | refine blk_alloc ?_ _)); exact BK308.out))⟩; have n4_ : Aside0 (Below w.heap.size w w15) := ⟨(by rw [hw]; exact Xi)⟩; clear hw; clear HO311; clear BK306; clear BK307; clear BK308; clear HB; have HO311 := n0_; have BK306 := n1_; have BK307 := n2_; have BK308 := n3_; have HB := n4_; clear n0_ n1_ n2_ n3_ n4_))
 refine bodyPost_ret (results_cell_row rfl _ _ gb307 103 #[.int .i64 a0_0, .int .i64 a0_1, .int .i64 a0_2, .string a0_3, .slice Ao12 t309.length co12] (0, 0) _ rfl BK307.out Try.underlying103 rfl (by kernel_rfl)) rfl ?_
 exact ⟨_, Xe, Xq HO311, Xi⟩
def laws_toNodeS.l0 : Nat → List (S142) → List (S103) → Int → Option ((List (S103)))
 | 0, _, _, _ => none
 | k + 1, x0, x3, x4 => if x4 < (x0.length : Int) then (if 0 ≤ x4 then ((laws_toNode.f k ((rd_T142 x0 x4).f0) ((rd_T142 x0 x4).f1) ((rd_T142 x0 x4).f2) ((rd_T142 x0 x4).f3) ((rd_T142 x0 x4).f4)).bind fun bt316 => (if x4 < (x3.length : Int) then (laws_toNodeS.l0 k x0 (x3.set (x4 : Int).toNat (⟨bt316.1, bt316.2.1, bt316.2.2.1, bt316.2.2.2.1, bt316.2.2.2.2⟩ : S103)) (wrap64 (x4 + 1))) else (none))) else (none)) else (some x3)
def laws_toNodeS.f (k : Nat) (l0 : List (S142)) : Option ((List (S103))) := if 0 ≤ (l0.length : Int) then (if ((l0.length : Int) : Int).toNat ≤ 4398046511104 then (laws_toNodeS.l0 k l0 (List.replicate ((l0.length : Int) : Int).toNat z103) 0) else (none)) else (none)
theorem laws_toNodeS.calls (k : Nat) (A0 : Option Addr) (c0 : Nat) (l0 : List (S142)) (r : List (S103)) (w : World) (hr0 : Kd.C k142 w A0 l0.length l0) (hc0 : l0.length ≤ c0) (h : laws_toNodeS.f k l0 = some r) :
  Calls Try.prog 78 #[.slice A0 l0.length c0] w fun e w' => ∃ v0_ : Value, e = .returned (v0_) ∧ Kd.S k103 103 w' w.heap.size (fun _ => True) v0_ r ∧ Below w.heap.size w w' := by
 have hu142 := Try.underlying142
 have hu103 := Try.underlying103
 have HR0 := Aside0.mk hr0
 have HC0 := Aside0.mk hc0
 clear hr0 hc0
 have HB := Aside0.mk (Below.refl w.heap.size w)
 have H : (if 0 ≤ (l0.length : Int) then (if ((l0.length : Int) : Int).toNat ≤ 4398046511104 then (laws_toNodeS.l0 k l0 (List.replicate ((l0.length : Int) : Int).toNat z103) 0) else (none)) else (none)) = some r := h
 clear h
 obtain ⟨c2, H⟩ | ⟨c2, H⟩ := Xiu H
 ·have c2b0 := eq_true c2
  have c2b1 : decide (0 ≤ (l0.length : Int)) = true := decide_eq_true c2
  clear c2
  obtain ⟨c3, H⟩ := Xif H
  have c3b0 := eq_true c3
  have c3b1 : decide (((l0.length : Int) : Int).toNat ≤ 4398046511104) = true := decide_eq_true c3
  clear c3
  obtain ⟨y312, hy312⟩ : ∃ y_ : List (S103), y_ = (List.replicate ((l0.length : Int) : Int).toNat z103) := ⟨_, rfl⟩
  replace H : (laws_toNodeS.l0 k l0 y312 0) = some r := by first | (rw [hy312]; with_reducible exact H) | (have H2_ := (Option.bind_some _ _).symm.trans H; rw [hy312]; with_reducible exact H2_) | (have H2_ := (Option.bind_some _ _).symm.trans H; with_reducible exact H2_) | with_reducible exact H | (rw [hy312]; exact H) | exact H
  have Ny312 := Aside0.mk hy312
  clear hy312
  have H' := Aside0.mk H
  clear H
  go_enter Try.func78, Try.ntmps78
  go_wp2_with (first | ((with_reducible refine gate_dst (N := 7) rfl ?_); refine Kd.S_make k103 _ 103 rfl (N := 7) rfl 63 _ _ rfl (l0.length : Int) rfl rfl Try.underlying63 (.agg #[(.int .i64 0), (.int .i64 0), (.int .i64 0), (.string ⟨#[]⟩), (.slice none 0 0)]) 64 info103 rfl (by decide) (by omega) z103 (ok := fun _ => True) (okp := fun _ => True) (k103_mkM _ _ _ z103 (Kd.R_nil _ _ _ _ _)) (fun _ hk => hk) trivial (of_decide_eq_true Xa) (Nat.le_trans (Nat.mul_le_mul_right _ (of_decide_eq_true Xa : (l0.length : Int).toNat ≤ 4398046511104)) (by omega)) (Below.refl _ _) (Nat.le_refl _) ?_; intro v313 w4 ho5 hb hg_ hnew_; clear hg_ hnew_; (first | rw [← Ny312.out] at ho5 | (simp only [Int.reduceToNat] at ho5; rw [← Ny312.out] at ho5)); have HO314 := Aside0.mk (Kd.S_lower ho5 (below_size Xi)); replace HB := Aside0.mk (below_step Xi hb); clear hb ho5))
  go_loopg [4] k (fun kq v4 w' => ∃ (x3_1 : List (S103)) (x4_1 : Int), v4 = .int .i64 x4_1 ∧ Aside0 (laws_toNodeS.l0 kq l0 x3_1 x4_1 = some r) ∧ Aside0 (kq ≤ k) ∧ Aside0 (Kd.S k103 103 w' w.heap.size (fun _ => True) v313 x3_1) ∧ Aside0 (Below w.heap.size w w'))
  case atStart => exact ⟨(y312), (0), Xr, H', Xkr, (Xp' HO314), ⟨Xi⟩⟩
  clear H'
  (try clear c2); (try clear c2b0); (try clear c2b1); (try clear c3); (try clear c3b0); (try clear c3b1)
  obtain ⟨x3_1, x4_1, rfl, HA, HK1, HO_3, HB⟩ := hrel
  cases gk with | zero => cases HA.out | succ k1 => ?_
  have H := HA.out
  clear HA
  simp only [laws_toNodeS.l0] at H
  obtain ⟨c6b0, H⟩ | ⟨c6b0, H⟩ := Xit H
  ·obtain ⟨c7b0, H⟩ := Xid H
   replace H := Option.bind_eq_some_iff.mp H
   obtain ⟨⟨t316, t317, t318, t319, t320⟩, A80, H⟩ := H
   (try dsimp only at H)
   have A8 := Aside0.mk A80
   clear A80
   obtain ⟨c9b0, H⟩ := Xid H
   obtain ⟨y323, hy323⟩ : ∃ y_ : List (S103), y_ = (x3_1.set (x4_1 : Int).toNat (⟨t316, t317, t318, t319, t320⟩ : S103)) := ⟨_, rfl⟩
   replace H : (laws_toNodeS.l0 k1 l0 y323 (wrap64 (x4_1 + 1))) = some r := by first | (rw [hy323]; with_reducible exact H) | (have H2_ := (Option.bind_some _ _).symm.trans H; rw [hy323]; with_reducible exact H2_) | (have H2_ := (Option.bind_some _ _).symm.trans H; with_reducible exact H2_) | with_reducible exact H | (rw [hy323]; exact H) | exact H
   have Ny323 := Aside0.mk hy323
   clear hy323
   have H' := Aside0.mk H
   clear H
   obtain ⟨ad315, A315_4, c315_4, e315, p315, q315, hx315_0, hx315_1, hx315_2, hx315_3, hx315_4, HC315_4, HR315_4⟩ := at_B142 HR0 x4_1 Xa Xa HB
   cases e315
   go_wp2_with (first | ((with_reducible refine gate_callee (f := 120) rfl ?_); refine Xgo 20 Try.func120 #[.agg #[.int .i64 ((rd_T142 l0 x4_1).f0), .int .i64 ((rd_T142 l0 x4_1).f1), .int .i64 ((rd_T142 l0 x4_1).f2), .string ((rd_T142 l0 x4_1).f3), .slice A315_4 ((rd_T142 l0 x4_1).f4).length c315_4]] ?_; (with_reducible refine (laws_toNode.calls k1 ((rd_T142 l0 x4_1).f0) ((rd_T142 l0 x4_1).f1) ((rd_T142 l0 x4_1).f2) ((rd_T142 l0 x4_1).f3) _ _ ((rd_T142 l0 x4_1).f4) t316 t317 t318 t319 t320 _ ?side1 ?side2 A8.out).mono ?_); (case side1 => exact Xc HR315_4); (case side2 => exact HC315_4.out); rintro e w11 ⟨v321, rfl, ho0, hb⟩; refine ⟨_, rfl, ?_⟩; replace HO_3 := Aside0.mk (Kd.S_elder' (Xq HO_3) (Kd.R_base ho0) hb); have HO322 := Aside0.mk (Kd.R_lower ho0 (below_size Xi)); replace HB := Aside0.mk (below_step Xi hb); clear hb; (try clear ho0); have p10 : 0 ≤ (x4_1 : Int) := of_decide_eq_true Xa; have q10 : (x4_1 : Int) < ((x3_1.length : Int) : Int) := of_decide_eq_true Xa; obtain ⟨go10, co10, eo10, gb10, gl10, cl10, HG10⟩ := Kd.S_form HO_3.out (by omega); (first | cases eo10 | (injection eo10 with ea_ en_ ec_; (first | subst ea_ | (injection ea_ with ea_; subst ea_)); subst ec_; clear en_)); have GB10 := Aside0.mk gb10; have GG10 := Aside0.mk HG10; clear gb10 gl10 HG10; obtain ⟨_, ce10, hcl10, hM10, hcc10, hfr10, _, _⟩ := Kd.S_elem HO_3.out z103 (x4_1 : Int) p10 q10; obtain ⟨ve10_4, rfl, ge10_4⟩ := k103_openM hM10; have hx10_0 : w11.cell? ⟨go10, (x4_1 : Int).toNat * 5, none⟩ = some (.int .i64 ((rd_T103 x3_1 x4_1).f0)) := hcc10 0 _ rfl; have hx10_1 : w11.cell? ⟨go10, (x4_1 : Int).toNat * 5 + 1, none⟩ = some (.int .i64 ((rd_T103 x3_1 x4_1).f1)) := hcc10 1 _ rfl; have hx10_2 : w11.cell? ⟨go10, (x4_1 : Int).toNat * 5 + 2, none⟩ = some (.int .i64 ((rd_T103 x3_1 x4_1).f2)) := hcc10 2 _ rfl; have hx10_3 : w11.cell? ⟨go10, (x4_1 : Int).toNat * 5 + 3, none⟩ = some (.string ((rd_T103 x3_1 x4_1).f3)) := hcc10 3 _ rfl; have hx10_4 : w11.cell? ⟨go10, (x4_1 : Int).toNat * 5 + 4, none⟩ = some (ve10_4) := hcc10 4 _ rfl; have hf10_0 : w11.frozen? ⟨go10, (x4_1 : Int).toNat * 5, none⟩ = false := hfr10 0; have hf10_1 : w11.frozen? ⟨go10, (x4_1 : Int).toNat * 5 + 1, none⟩ = false := hfr10 1; have hf10_2 : w11.frozen? ⟨go10, (x4_1 : Int).toNat * 5 + 2, none⟩ = false := hfr10 2; have hf10_3 : w11.frozen? ⟨go10, (x4_1 : Int).toNat * 5 + 3, none⟩ = false := hfr10 3; have hf10_4 : w11.frozen? ⟨go10, (x4_1 : Int).toNat * 5 + 4, none⟩ = false := hfr10 4; clear hcl10 hcc10 hfr10; (try clear hM10); replace p10 := eq_true p10; replace q10 := eq_true q10; have n_ := Aside0.mk (Kd.S_mono (ok' := (fun k_ => some k_ ≠ (v321 : Value).ownBlock)) HO_3.out (fun k_ hk => hk.2)); clear HO_3; have HO_3 := n_; clear n_; have HX12 := Aside0.mk (show Kd.S k103 103 w11 w.heap.size (fun k_ => ((fun _ => True)) k_ ∧ ¬ ((fun k_ => some k_ = (v321 : Value).ownBlock)) k_) (.slice (some ⟨go10, 0, none⟩) x3_1.length co10) x3_1 from (by (with_reducible repeat (first | apply Kd.S_alloc | apply Kd.S_drewN | apply Kd.S_drew)); exact Kd.S_mono HO_3.out (fun k_ hk => ⟨trivial, fun e_ => hk e_⟩))); obtain ⟨oki12, ce12, hcl12, hM12, hcc12, hfr12, hoki12, hH12⟩ := Kd.S_elem HX12.out z103 (x4_1 : Int) (of_decide_eq_true Xa) (by have h_ : (x4_1 : Int) < ((x3_1.length : Int) : Int) := of_decide_eq_true Xa; first | exact h_ | (have e_ := (Kd.S_reads' HO_3.out).1; omega) | simpa using h_); obtain ⟨ve12_4, rfl, ge12_4⟩ := k103_openM hM12; have HP12 := Kd.S_seg hH12 (of_decide_eq_true Xa) (by have h_ : (x4_1 : Int) < ((x3_1.length : Int) : Int) := of_decide_eq_true Xa; first | exact h_ | (have e_ := (Kd.S_reads' HO_3.out).1; omega) | simpa using h_) (seg := [.int .i64 t316, .int .i64 t317, .int .i64 t318, .string t319, v321]) (j := 0) (show 5 ≤ 5 from by decide) (x' := (⟨t316, t317, t318, t319, t320⟩ : S103)) (k103_mkM _ _ _ (⟨t316, t317, t318, t319, t320⟩ : S103) (Kd.R_mono (Kd.R_tight rfl (Kd.R_mono (ok' := fun k_ => ((fun _ => True)) k_ ∧ k_ ≠ go10) (Kd.R_apart' (HO322.out) (Kd.S_typed HO_3.out) (by decide)) (fun k_ hk => ⟨trivial, fun e_ => (hk.2) (by rw [e_]; rfl)⟩))) (fun _ h_ => Or.inr (h_)))) (fun _ hk => hk) (fun k_ hk_ => ((Kd.R_mono (ok' := fun k_ => ((fun _ => True)) k_ ∧ k_ ≠ go10) (Kd.R_apart' (HO322.out) (Kd.S_typed HO_3.out) (by decide)) (fun k_ hk => ⟨trivial, fun e_ => (hk.2) (by rw [e_]; rfl)⟩))).1 k_ hk_.symm); have hx12_0 := hcc12 0 _ rfl; (try simp only [show (k103).sz = 5 from rfl, Nat.mul_one, Nat.add_zero] at hx12_0); have hf12_0 := hfr12 0; (try simp only [show (k103).sz = 5 from rfl, Nat.mul_one, Nat.add_zero] at hf12_0); have hx12_1 := hcc12 1 _ rfl; (try simp only [show (k103).sz = 5 from rfl, Nat.mul_one, Nat.add_zero] at hx12_1); have hf12_1 := hfr12 1; (try simp only [show (k103).sz = 5 from rfl, Nat.mul_one, Nat.add_zero] at hf12_1); have hx12_2 := hcc12 2 _ rfl; (try simp only [show (k103).sz = 5 from rfl, Nat.mul_one, Nat.add_zero] at hx12_2); have hf12_2 := hfr12 2; (try simp only [show (k103).sz = 5 from rfl, Nat.mul_one, Nat.add_zero] at hf12_2); have hx12_3 := hcc12 3 _ rfl; (try simp only [show (k103).sz = 5 from rfl, Nat.mul_one, Nat.add_zero] at hx12_3); have hf12_3 := hfr12 3; (try simp only [show (k103).sz = 5 from rfl, Nat.mul_one, Nat.add_zero] at hf12_3); have hx12_4 := hcc12 4 _ rfl; (try simp only [show (k103).sz = 5 from rfl, Nat.mul_one, Nat.add_zero] at hx12_4); have hf12_4 := hfr12 4; (try simp only [show (k103).sz = 5 from rfl, Nat.mul_one, Nat.add_zero] at hf12_4); clear hcl12 hcc12 hfr12 hoki12 hH12; (try clear hM12)) | ((with_reducible refine gate_store (t := 103) (p := 21) rfl ?_); refine store_event (t := 103) (p := 21) (v := ?vo_w13) (w1 := (((((w11.setCell ⟨go10, (x4_1 : Int).toNat * 5, none⟩ (.int .i64 t316)).setCell ⟨go10, (x4_1 : Int).toNat * 5 + 1, none⟩ (.int .i64 t317)).setCell ⟨go10, (x4_1 : Int).toNat * 5 + 2, none⟩ (.int .i64 t318)).setCell ⟨go10, (x4_1 : Int).toNat * 5 + 3, none⟩ (.string t319)).setCell ⟨go10, (x4_1 : Int).toNat * 5 + 4, none⟩ (v321))) ?hg ?ho ?hn ?hr ?_; (case ho => rfl); (case hg => rfl); (case hn => rfl); (case hr => first | (go_simp; done) | (go_simp; rfl) | (obtain ⟨_, _, hz0_⟩ := Kd.R_slice HO322.out; subst hz0_; first | (go_simp; done) | (go_simp; rfl))); intro w13 hw; have hg : w11.grownBy w13 (some go10) := (by rw [hw]; exact HP12.2); have hp_ : Kd.S k103 103 w13 w.heap.size (fun _ => True) (.slice (some ⟨go10, 0, none⟩) x3_1.length co10) y323 := (by rw [hw, Ny323.out]; exact HP12.1); clear HP12; replace HO_3 := Aside0.mk (hp_); replace HB := Aside0.mk ((by rw [hw]; exact below_set (below_set (below_set (below_set (below_set (HB.out) GB10.out) GB10.out) GB10.out) GB10.out) GB10.out : Below w.heap.size w w13)); clear HO322; clear hg hw hp_))
   go_roundg k1
   case measure => have := HK1.out; omega
   case rel => exact ⟨(y323), (wrap64 (x4_1 + 1)), Xr, H', Xk1, (Xp' HO_3), ⟨Xi⟩⟩
  obtain rfl := Option.some.inj H
  go_wp2
  go_ret
  exact ⟨_, Xe, Xq HO_3, Xi⟩
 exact absurd H (by simp)
def laws_toDoc.f (k : Nat) (a0_0 : Int) (a0_1 : Int) (l0_2 : List (S142)) : Option (Int × Int × (List (S103))) := (laws_toNodeS.f k l0_2).bind fun t327 => (some (a0_0, a0_1, t327))
theorem laws_toDoc.calls (k : Nat) (a0_0 : Int) (a0_1 : Int) (A0_2 : Option Addr) (c0_2 : Nat) (l0_2 : List (S142)) (r1 : Int) (r2 : Int) (r3 : List (S103)) (w : World) (hr0_2 : Kd.C k142 w A0_2 l0_2.length l0_2) (hc0_2 : l0_2.length ≤ c0_2) (h : laws_toDoc.f k a0_0 a0_1 l0_2 = some (r1, r2, r3)) :
  Calls Try.prog 35 #[.agg #[.int .i64 a0_0, .int .i64 a0_1, .slice A0_2 l0_2.length c0_2]] w fun e w' => ∃ v2_ : Value, e = .returned (.agg #[.int .i64 r1, .int .i64 r2, v2_]) ∧ Kd.S k103 103 w' w.heap.size (fun _ => True) v2_ r3 ∧ Below w.heap.size w w' := by
 have hu60 := Try.underlying60
 have hu65 := Try.underlying65
 have HR0_2 := Aside0.mk hr0_2
 have HC0_2 := Aside0.mk hc0_2
 clear hr0_2 hc0_2
 have HB := Aside0.mk (Below.refl w.heap.size w)
 have H : ((laws_toNodeS.f k l0_2).bind fun t327 => (some (a0_0, a0_1, t327))) = some (r1, r2, r3) := h
 clear h
 obtain ⟨t327, A2, H⟩ := Xbi H
 (try dsimp only at H)
 simp only [Option.some.injEq, Prod.mk.injEq] at H
 obtain ⟨rfl, rfl, rfl⟩ := H
 go_enter Try.func35, Try.ntmps35
 go_wp2_with (first | ((with_reducible refine gate_dst (N := 1) rfl ?_); refine Xbox 1 #[.int .i64 a0_0, .int .i64 a0_1, .slice A0_2 l0_2.length c0_2] 60 ?_; intro gb324 hg w3 hbox hb; have BK324 := Aside0.mk (hbox); have GE324 := Xge hg Xi; replace HB := Aside0.mk (below_step Xi hb); clear hb hbox hg) | ((with_reducible refine gate_dst (N := 2) rfl ?_); refine Xbox 2 #[.int .i64 0, .int .i64 0, .slice none 0 0] 65 ?_; intro gb325 hg w4 hbox hb; have BK325 := Aside0.mk (hbox); have GE325 := Xge hg Xi; replace HB := Aside0.mk (below_step Xi hb); have NB324_325 := Xnb hg BK324; have NB325_324 := Xns NB324_325; replace BK324 := Xbb BK324 hb; clear hb hbox hg) | ((with_reducible refine gate_dst (N := 3) rfl ?_); refine Xbox 3 #[.int .i64 0, .int .i64 0, .slice none 0 0] 65 ?_; intro gb326 hg w5 hbox hb; have BK326 := Aside0.mk (hbox); have GE326 := Xge hg Xi; replace HB := Aside0.mk (below_step Xi hb); have NB324_326 := Xnb hg BK324; have NB326_324 := Xns NB324_326; replace BK324 := Xbb BK324 hb; have NB325_326 := Xnb hg BK325; have NB326_325 := Xns NB325_326; replace BK325 := Xbb BK325 hb; clear hb hbox hg; have hnb6 := NB324_325.out; have hnc6 := NB325_324.out; have hnb7 := NB324_326.out; have hnc7 := NB326_324.out; obtain ⟨hcz8_0, hcz8_1, hcz8_2⟩ := Xc3 BK324; obtain ⟨hfz8_0, hfz8_1, hfz8_2⟩ := Xf3 BK324; have hnb9 := NB326_325.out; have hnc9 := NB325_326.out; obtain ⟨hcz10_0, hcz10_1, hcz10_2⟩ := Xc3 BK326; obtain ⟨hfz10_0, hfz10_1, hfz10_2⟩ := Xf3 BK326) | ((with_reducible refine gate_callee (f := 78) rfl ?_); refine Xgo 12 Try.func78 #[.slice A0_2 l0_2.length c0_2] ?_; (with_reducible refine (laws_toNodeS.calls k _ _ l0_2 t327 _ ?side1 ?side2 A2.out).mono ?_); (case side1 => exact Xc HR0_2); (case side2 => exact HC0_2.out); rintro e w11 ⟨v328, rfl, ho0, hb⟩; refine ⟨_, rfl, ?_⟩; have HO329 := Aside0.mk (Kd.S_lower ho0 (below_size Xi)); replace BK324 := Aside0.mk (blk_below (g := gb324) (o := .cells #[.int .i64 a0_0, .int .i64 a0_1, .slice A0_2 l0_2.length c0_2] 60 (0, 0)) (by (with_reducible repeat (first | refine blk_drewN ?_ _ | refine blk_drew ?_ | refine blk_alloc ?_ _)); refine blk_far ?_ NB324_326.out _; (with_reducible repeat (first | refine blk_drewN ?_ _ | refine blk_drew ?_ | refine blk_alloc ?_ _)); refine blk_far ?_ NB324_326.out _; (with_reducible repeat (first | refine blk_drewN ?_ _ | refine blk_drew ?_ | refine blk_alloc ?_ _)); exact BK324.out) hb); replace BK325 := Aside0.mk (blk_below (g := gb325) (o := .cells #[.int .i64 0, .int .i64 0, .slice none 0 0] 65 (0, 0)) (by (with_reducible repeat (first | refine blk_drewN ?_ _ | refine blk_drew ?_ | refine blk_alloc ?_ _)); refine blk_far ?_ NB325_326.out _; (with_reducible repeat (first | refine blk_drewN ?_ _ | refine blk_drew ?_ | refine blk_alloc ?_ _)); refine blk_far ?_ NB325_326.out _; (with_reducible repeat (first | refine blk_drewN ?_ _ | refine blk_drew ?_ | refine blk_alloc ?_ _)); exact BK325.out) hb); replace BK326 := Aside0.mk (blk_below (g := gb326) (o := .cells #[.int .i64 a0_0, .int .i64 a0_1, .slice none 0 0] 65 (0, 0)) (by (with_reducible repeat (first | refine blk_drewN ?_ _ | refine blk_drew ?_ | refine blk_alloc ?_ _)); refine blk_put (cs := #[.int .i64 a0_0, .int .i64 0, .slice none 0 0]) ?_ 1 _ rfl; (with_reducible repeat (first | refine blk_drewN ?_ _ | refine blk_drew ?_ | refine blk_alloc ?_ _)); refine blk_put (cs := #[.int .i64 0, .int .i64 0, .slice none 0 0]) ?_ 0 _ rfl; (with_reducible repeat (first | refine blk_drewN ?_ _ | refine blk_drew ?_ | refine blk_alloc ?_ _)); exact BK326.out) hb); replace HB := Aside0.mk (below_step Xi hb); clear hb; (try clear ho0); obtain ⟨Ao12, co12, eo12⟩ := Kd.S_slice HO329.out; subst eo12; obtain ⟨hcz13_0, hcz13_1, hcz13_2⟩ := Xc3 BK326; obtain ⟨hfz13_0, hfz13_1, hfz13_2⟩ := Xf3 BK326; obtain ⟨hcz14_0, hcz14_1, hcz14_2⟩ := Xc3 BK325; obtain ⟨hfz14_0, hfz14_1, hfz14_2⟩ := Xf3 BK325) | ((with_reducible refine gate_store (t := 65) (p := 2) rfl ?_); refine store_event (t := 65) (p := 2) (v := ?vo_w15) (w1 := ((((w11.setCell ⟨gb326, 2, none⟩ (.slice Ao12 t327.length co12)).setCell ⟨gb325, 0, none⟩ (.int .i64 a0_0)).setCell ⟨gb325, 1, none⟩ (.int .i64 a0_1)).setCell ⟨gb325, 2, none⟩ (.slice Ao12 t327.length co12))) ?hg ?ho ?hn ?hr ?_; (case ho => rfl); (case hg => rfl); (case hn => rfl); (case hr => first | (go_simp; done) | (go_simp; rfl)); intro w15 hw; have n0_ : Aside0 (Kd.S k103 103 w15 w.heap.size (fun _ => True) (.slice Ao12 t327.length co12) t327) := ⟨(by rw [hw]; exact (by (with_reducible repeat (first | apply Kd.S_alloc | apply Kd.S_drewN | apply Kd.S_drew)); exact Kd.S_mono (Kd.S_far (p := ⟨gb325, 2, none⟩) (Kd.S_far (p := ⟨gb325, 1, none⟩) (Kd.S_far (p := ⟨gb325, 0, none⟩) (Kd.S_far (p := ⟨gb326, 2, none⟩) (Kd.S_types (Kd.S_types HO329.out BK326.out (by decide)) BK325.out (by decide)) (fun _ hk => hk.1.2) (.slice Ao12 t327.length co12)) (fun _ hk => hk.2) (.int .i64 a0_0)) (fun _ hk => hk.2) (.int .i64 a0_1)) (fun _ hk => hk.2) (.slice Ao12 t327.length co12)) (fun _ hk => trivial)))⟩; have n1_ : Aside0 (w15.heap[gb324]? = some (.cells #[.int .i64 a0_0, .int .i64 a0_1, .slice A0_2 l0_2.length c0_2] 60 (0, 0))) := ⟨(by rw [hw]; exact (by (with_reducible repeat (first | refine blk_drewN ?_ _ | refine blk_drew ?_ | refine blk_alloc ?_ _)); refine blk_far ?_ NB324_325.out _; (with_reducible repeat (first | refine blk_drewN ?_ _ | refine blk_drew ?_ | refine blk_alloc ?_ _)); refine blk_far ?_ NB324_325.out _; (with_reducible repeat (first | refine blk_drewN ?_ _ | refine blk_drew ?_ | refine blk_alloc ?_ _)); refine blk_far ?_ NB324_325.out _; (with_reducible repeat (first | refine blk_drewN ?_ _ | refine blk_drew ?_ | refine blk_alloc ?_ _)); refine blk_far ?_ NB324_326.out _; (with_reducible repeat (first | refine blk_drewN ?_ _ | refine blk_drew ?_ | refine blk_alloc ?_ _)); exact BK324.out))⟩; have n2_ : Aside0 (w15.heap[gb325]? = some (.cells #[.int .i64 a0_0, .int .i64 a0_1, .slice Ao12 t327.length co12] 65 (0, 0))) := ⟨(by rw [hw]; exact (by (with_reducible repeat (first | refine blk_drewN ?_ _ | refine blk_drew ?_ | refine blk_alloc ?_ _)); refine blk_put (cs := #[.int .i64 a0_0, .int .i64 a0_1, .slice none 0 0]) ?_ 2 _ rfl; (with_reducible repeat (first | refine blk_drewN ?_ _ | refine blk_drew ?_ | refine blk_alloc ?_ _)); refine blk_put (cs := #[.int .i64 a0_0, .int .i64 0, .slice none 0 0]) ?_ 1 _ rfl; (with_reducible repeat (first | refine blk_drewN ?_ _ | refine blk_drew ?_ | refine blk_alloc ?_ _)); refine blk_put (cs := #[.int .i64 0, .int .i64 0, .slice none 0 0]) ?_ 0 _ rfl; (with_reducible repeat (first | refine blk_drewN ?_ _ | refine blk_drew ?_ | refine blk_alloc ?_ _)); refine blk_far ?_ NB325_326.out _; (with_reducible repeat (first | refine blk_drewN ?_ _ | refine blk_drew ?_ | refine blk_alloc ?_ _)); exact BK325.out))⟩; have n3_ : Aside0 (w15.heap[gb326]? = some (.cells #[.int .i64 a0_0, .int .i64 a0_1, .slice Ao12 t327.length co12] 65 (0, 0))) := ⟨(by rw [hw]; exact (by (with_reducible repeat (first | refine blk_drewN ?_ _ | refine blk_drew ?_ | refine blk_alloc ?_ _)); refine blk_far ?_ NB326_325.out _; (with_reducible repeat (first | refine blk_drewN ?_ _ | refine blk_drew ?_ | refine blk_alloc ?_ _)); refine blk_far ?_ NB326_325.out _; (with_reducible repeat (first | refine blk_drewN ?_ _ | refine blk_drew ?_ | refine blk_alloc ?_ _)); refine blk_far ?_ NB326_325.out _; (with_reducible repeat (first | refine blk_drewN ?_ _ | refine blk_drew ?_ | refine blk_alloc ?_ _)); refine blk_put (cs := #[.int .i64 a0_0, .int .i64 a0_1, .slice none 0 0]) ?_ 2 _ rfl; (with_reducible repeat (first | refine blk_drewN ?_ _ | refine blk_drew ?_ | refine blk_alloc ?_ _)); exact BK326.out))⟩; have n4_ : Aside0 (Below w.heap.size w w15) := ⟨(by rw [hw]; exact Xi)⟩; clear hw; clear HO329; clear BK324; clear BK325; clear BK326; clear HB; have HO329 := n0_; have BK324 := n1_; have BK325 := n2_; have BK326 := n3_; have HB := n4_; clear n0_ n1_ n2_ n3_ n4_))
 refine bodyPost_ret (results_cell_row rfl _ _ gb325 65 #[.int .i64 a0_0, .int .i64 a0_1, .slice Ao12 t327.length co12] (0, 0) _ rfl BK325.out Try.underlying65 rfl (by kernel_rfl)) rfl ?_
 exact ⟨_, Xe, Xq HO329, Xi⟩
def impl_isLongList_impl_Rule.f (l0 : List (S97)) : Option (Bool) := some (decide ((l0.length : Int) > 4096))
theorem impl_isLongList_impl_Rule.calls (A0 : Option Addr) (c0 : Nat) (l0 : List (S97)) (r : Bool) (w : World) (hr0 : Kd.C k97 w A0 l0.length l0) (hc0 : l0.length ≤ c0) (h : impl_isLongList_impl_Rule.f l0 = some r) :
  Calls Try.prog 68 #[.slice A0 l0.length c0] w fun e w' => e = .returned (.bool r) ∧ Drawn0 w w' := by
 have HR0 := Aside0.mk hr0
 have HC0 := Aside0.mk hc0
 clear hr0 hc0
 have H : (some (decide ((l0.length : Int) > 4096))) = some r := h
 clear h
 obtain rfl := Option.some.inj H
 go_enter Try.func68, Try.ntmps68
 go_wp2
 go_ret
 exact ⟨Xr, Xdr⟩
def impl_within.f (a0 : Int) (a1 : Int) (a2 : Int) : Option (Bool) := if a0 ≥ a1 then (some (decide (a0 ≤ a2))) else (some false)
theorem impl_within.calls (a0 : Int) (a1 : Int) (a2 : Int) (r : Bool) (w : World) (h : impl_within.f a0 a1 a2 = some r) :
  Calls Try.prog 107 #[.int .i64 a0, .int .i64 a1, .int .i64 a2] w fun e w' => e = .returned (.bool r) ∧ Drawn0 w w' := by
 have H : (if a0 ≥ a1 then (some (decide (a0 ≤ a2))) else (some false)) = some r := h
 clear h
 obtain ⟨c4, H⟩ | ⟨c4, H⟩ := Xiu H
 ·have c4b0 : decide (a1 ≤ a0) = true := decide_eq_true c4
  clear c4
  obtain rfl := Option.some.inj H
  go_enter Try.func107, Try.ntmps107
  go_wp2
  go_ret
  exact ⟨Xr, Xdr⟩
 have c4b0 : decide (a1 ≤ a0) = false := decide_eq_false c4
 clear c4
 obtain rfl := Option.some.inj H
 go_enter Try.func107, Try.ntmps107
 go_wp2
 go_ret
 exact ⟨Xr, Xdr⟩
def impl_isTerm.l0 : Nat → Int → List Int → Int → Int → List Int → Int → Option (Bool)
 | 0, _, _, _, _, _, _ => none
 | k + 1, x1, x8, x9, x10, x334000, x334001 => if x10 < x9 then (if 0 ≤ x10 then (if x10 < (x8.length : Int) then ((impl_within.f (rd x8 x10) 1 x1).bind fun t335 => (if t335 = true then (if x10 > 0 then (if 0 ≤ (wrap64 (x10 - 1)) then (if (wrap64 (x10 - 1)) < (x334000.length : Int) then (if (rd x334000 (wrap64 (x10 - 1))) ≥ (rd x8 x10) then (some false) else (impl_isTerm.l0 k x1 x8 x9 (wrap64 (x10 + 1)) x334000 x334001)) else (none)) else (none)) else (impl_isTerm.l0 k x1 x8 x9 (wrap64 (x10 + 1)) x334000 x334001)) else (some false))) else (none)) else (none)) else (if (x334000.length : Int) > 0 then ((impl_within.f x334001 0 3).bind fun t337 => (some t337)) else (some false))
def impl_isTerm.f (k : Nat) (l0_0 : List Int) (a0_1 : Int) (a1 : Int) : Option (Bool) := impl_isTerm.l0 k a1 l0_0 (l0_0.length : Int) 0 l0_0 a0_1
theorem impl_isTerm.calls (k : Nat) (A0_0 : Option Addr) (c0_0 : Nat) (l0_0 : List Int) (a0_1 : Int) (a1 : Int) (r : Bool) (w : World) (hr0_0 : Kd.C (Kd.int .i64) w A0_0 l0_0.length l0_0) (hc0_0 : l0_0.length ≤ c0_0) (h : impl_isTerm.f k l0_0 a0_1 a1 = some r) :
  Calls Try.prog 100 #[.agg #[.slice A0_0 l0_0.length c0_0, .int .i64 a0_1], .int .i64 a1] w fun e w' => e = .returned (.bool r) ∧ Below w.heap.size w w' := by
 have hu78 := Try.underlying78
 have HR0_0 := Aside0.mk hr0_0
 have HC0_0 := Aside0.mk hc0_0
 clear hr0_0 hc0_0
 have HB := Aside0.mk (Below.refl w.heap.size w)
 have H : (impl_isTerm.l0 k a1 l0_0 (l0_0.length : Int) 0 l0_0 a0_1) = some r := h
 clear h
 have H' := Aside0.mk H
 clear H
 go_enter Try.func100, Try.ntmps100
 go_wp2_with (first | ((with_reducible refine gate_dst (N := 2) rfl ?_); refine Xbox 2 #[.slice A0_0 l0_0.length c0_0, .int .i64 a0_1] 78 ?_; intro gb333 hg w3 hbox hb; have BK333 := Aside0.mk (hbox); have GE333 := Xge hg Xi; replace HB := Aside0.mk (below_step Xi hb); clear hb hbox hg; obtain ⟨hcz4_0, hcz4_1⟩ := Xc2 BK333))
 go_loopg [10] k (fun kq v10 w' => ∃ (x10_1 : Int), v10 = .int .i64 x10_1 ∧ Aside0 (impl_isTerm.l0 kq a1 l0_0 (l0_0.length : Int) x10_1 l0_0 a0_1 = some r) ∧ Aside0 (kq ≤ k) ∧ Aside0 (w'.heap[gb333]? = some (.cells #[(.slice A0_0 l0_0.length c0_0), .int .i64 a0_1] 78 (0, 0))) ∧ Aside0 (Below w.heap.size w w'))
 case atStart => exact ⟨(0), Xr, H', Xkr, BK333, ⟨Xi⟩⟩
 clear H'
 (try clear hcz4_0); (try clear hcz4_1)
 obtain ⟨x10_1, rfl, HA, HK1, BK333, HB⟩ := hrel
 cases gk with | zero => cases HA.out | succ k1 => ?_
 have H := HA.out
 clear HA
 simp only [impl_isTerm.l0] at H
 obtain ⟨c5b0, H⟩ | ⟨c5b0, H⟩ := Xit H
 ·obtain ⟨c6b0, H⟩ := Xid H
  obtain ⟨c7b0, H⟩ := Xid H
  obtain ⟨t335, A8, H⟩ := Xbi H
  (try dsimp only at H)
  by_cases c9 : t335 = true
  ·subst c9
   (first | rw [if_pos rfl] at H | skip)
   obtain ⟨c10, H⟩ | ⟨c10, H⟩ := Xiu H
   ·have c10b0 : decide (0 < x10_1) = true := decide_eq_true c10
    clear c10
    obtain ⟨ji11, hji11⟩ : ∃ j_ : Int, (wrap64 (x10_1 - 1)) = j_ := ⟨_, rfl⟩
    replace H : (if 0 ≤ (ji11) then (if (ji11) < (l0_0.length : Int) then (if (rd l0_0 (ji11)) ≥ (rd l0_0 x10_1) then (some false) else (impl_isTerm.l0 k1 a1 l0_0 (l0_0.length : Int) (wrap64 (x10_1 + 1)) l0_0 a0_1)) else (none)) else (none)) = some r := by first | (rw [hji11] at H; exact H) | (simp only [hji11] at H ⊢; exact H)
    (try rw [hji11] at A8)
    have hji11w : (IntKind.i64.wrap (x10_1 - 1)) = ji11 := (i64_w _).trans hji11
    obtain ⟨c12b0, H⟩ := Xid H
    obtain ⟨c13b0, H⟩ := Xid H
    have HC14 := Aside0.mk H
    clear H
    have p334 : 0 ≤ (x10_1 : Int) := of_decide_eq_true Xa
    have q334 : x10_1 < (l0_0.length : Int) := of_decide_eq_true Xa
    obtain ⟨ad334, e334, hx334_0⟩ := Kd.at_int HR0_0.out x10_1 p334 q334
    cases e334
    replace hx334_0 := Xm HB hx334_0
    replace p334 := eq_true p334
    replace q334 := eq_true q334
    go_upto_if 32 with (first | ((with_reducible refine gate_callee (f := 107) rfl ?_); refine Xgo 17 Try.func107 #[.int .i64 (rd l0_0 x10_1), .int .i64 1, .int .i64 a1] ?_; (with_reducible refine (impl_within.calls (rd l0_0 x10_1) 1 a1 true _ A8.out).mono ?_); rintro e w' ⟨rfl, ⟨nd, rfl⟩⟩; refine ⟨_, rfl, ?_⟩; obtain ⟨hcz15_0, hcz15_1⟩ := Xc2 BK333; have p336 : 0 ≤ ((ji11) : Int) := of_decide_eq_true Xa; have q336 : (ji11) < (l0_0.length : Int) := of_decide_eq_true Xa; obtain ⟨ad336, e336, hx336_0⟩ := Kd.at_int HR0_0.out (ji11) p336 q336; obtain rfl : ad334 = ad336 := (by injection e336); replace hx336_0 := Xm HB hx336_0; replace p336 := eq_true p336; replace q336 := eq_true q336))
    have H := HC14.out
    clear HC14
    obtain ⟨c16, H⟩ | ⟨c16, H⟩ := Xiu H
    ·have c16b0 : decide ((rd l0_0 x10_1) ≤ (rd l0_0 (ji11))) = true := decide_eq_true c16
     clear c16
     (first | rw [c16b0] | (simp only [i64_w, i32_w]; rw [c16b0]) | skip)
     obtain rfl := Option.some.inj H
     go_wp2
     go_ret
     exact ⟨by first | rfl | (simp [errW_none, errW_some] <;> rfl) | (simp only [← hji11]; first | rfl | (simp [errW_none, errW_some] <;> rfl)) | (simp [*, errW_none, errW_some] <;> rfl), Xi⟩
    have c16b0 : decide ((rd l0_0 x10_1) ≤ (rd l0_0 (ji11))) = false := decide_eq_false c16
    clear c16
    (first | rw [c16b0] | (simp only [i64_w, i32_w]; rw [c16b0]) | skip)
    have H' := Aside0.mk H
    clear H
    go_wp2
    go_roundg k1
    case measure => have := HK1.out; omega
    case rel => exact ⟨(wrap64 (x10_1 + 1)), Xr, H', Xk1, BK333, ⟨Xi⟩⟩
   have c10b0 : decide (0 < x10_1) = false := decide_eq_false c10
   clear c10
   have H' := Aside0.mk H
   clear H
   have p334 : 0 ≤ (x10_1 : Int) := of_decide_eq_true Xa
   have q334 : x10_1 < (l0_0.length : Int) := of_decide_eq_true Xa
   obtain ⟨ad334, e334, hx334_0⟩ := Kd.at_int HR0_0.out x10_1 p334 q334
   cases e334
   replace hx334_0 := Xm HB hx334_0
   replace p334 := eq_true p334
   replace q334 := eq_true q334
   go_wp2_with (first | ((with_reducible refine gate_callee (f := 107) rfl ?_); refine Xgo 17 Try.func107 #[.int .i64 (rd l0_0 x10_1), .int .i64 1, .int .i64 a1] ?_; (with_reducible refine (impl_within.calls (rd l0_0 x10_1) 1 a1 true _ A8.out).mono ?_); rintro e w' ⟨rfl, ⟨nd, rfl⟩⟩; refine ⟨_, rfl, ?_⟩))
   go_roundg k1
   case measure => have := HK1.out; omega
   case rel => exact ⟨(wrap64 (x10_1 + 1)), Xr, H', Xk1, BK333, ⟨Xi⟩⟩
  replace c9 := Bool.eq_false_iff.mpr c9
  subst c9
  (first | rw [if_neg (show ¬ (false = true) by decide)] at H | skip)
  obtain rfl := Option.some.inj H
  have p334 : 0 ≤ (x10_1 : Int) := of_decide_eq_true Xa
  have q334 : x10_1 < (l0_0.length : Int) := of_decide_eq_true Xa
  obtain ⟨ad334, e334, hx334_0⟩ := Kd.at_int HR0_0.out x10_1 p334 q334
  cases e334
  replace hx334_0 := Xm HB hx334_0
  replace p334 := eq_true p334
  replace q334 := eq_true q334
  go_wp2_with (first | ((with_reducible refine gate_callee (f := 107) rfl ?_); refine Xgo 17 Try.func107 #[.int .i64 (rd l0_0 x10_1), .int .i64 1, .int .i64 a1] ?_; (with_reducible refine (impl_within.calls (rd l0_0 x10_1) 1 a1 false _ A8.out).mono ?_); rintro e w' ⟨rfl, ⟨nd, rfl⟩⟩; refine ⟨_, rfl, ?_⟩))
  go_ret
  exact ⟨Xe, Xi⟩
 obtain ⟨c17, H⟩ | ⟨c17, H⟩ := Xiu H
 ·have c17b0 : decide (0 < (l0_0.length : Int)) = true := decide_eq_true c17
  have c17b1 : decide (0 < l0_0.length) = true := decide_eq_true (by omega)
  clear c17
  obtain ⟨t337, A18, H⟩ := Xbi H
  (try dsimp only at H)
  obtain rfl := Option.some.inj H
  obtain ⟨hcz19_0, hcz19_1⟩ := Xc2 BK333
  go_wp2_with (first | (go_at_call 107; (with_reducible refine (impl_within.calls a0_1 0 3 t337 _ A18.out).mono ?_); rintro e w' ⟨rfl, ⟨nd, rfl⟩⟩))
  go_ret
  exact ⟨Xe, Xi⟩
 have c17b0 : decide (0 < (l0_0.length : Int)) = false := decide_eq_false c17
 have c17b1 : decide (0 < l0_0.length) = false := decide_eq_false (by omega)
 clear c17
 obtain rfl := Option.some.inj H
 obtain ⟨hcz20_0, hcz20_1⟩ := Xc2 BK333
 go_wp2
 go_ret
 exact ⟨Xe, Xi⟩
def impl_areTerms_1.f (k : Nat) (l0_0 : List Int) (a0_1 : Int) (a1_0 : Int) : Option (Bool) := (impl_isTerm.f k l0_0 a0_1 a1_0).bind fun t339 => (some (!t339))
theorem impl_areTerms_1.calls (k : Nat) (A0_0 : Option Addr) (c0_0 : Nat) (l0_0 : List Int) (a0_1 : Int) (g1_ : Nat) (a1_0 : Int) (r : Bool) (w : World) (hr0_0 : Kd.C (Kd.int .i64) w A0_0 l0_0.length l0_0) (hc0_0 : l0_0.length ≤ c0_0) (hg1_ : w.heap[g1_]? = some (.cells #[.int .i64 a1_0] 3 (0, 0))) (h : impl_areTerms_1.f k l0_0 a0_1 a1_0 = some r) :
  Calls Try.prog 99 #[.agg #[.slice A0_0 l0_0.length c0_0, .int .i64 a0_1], .pointer (some ⟨g1_, 0, none⟩)] w fun e w' => e = .returned (.bool r) ∧ Below w.heap.size w w' := by
 have hu78 := Try.underlying78
 have HR0_0 := Aside0.mk hr0_0
 have HC0_0 := Aside0.mk hc0_0
 clear hr0_0 hc0_0
 have BK1 := Aside0.mk hg1_
 clear hg1_
 have HB := Aside0.mk (Below.refl w.heap.size w)
 have H : ((impl_isTerm.f k l0_0 a0_1 a1_0).bind fun t339 => (some (!t339))) = some r := h
 clear h
 obtain ⟨t339, A3, H⟩ := Xbi H
 (try dsimp only at H)
 obtain rfl := Option.some.inj H
 go_enter Try.func99, Try.ntmps99
 go_wp2_with (first | ((with_reducible refine gate_dst (N := 2) rfl ?_); refine Xbox 2 #[.slice A0_0 l0_0.length c0_0, .int .i64 a0_1] 78 ?_; intro gb338 hg w4 hbox hb; have BK338 := Aside0.mk (hbox); have GE338 := Xge hg Xi; replace HB := Aside0.mk (below_step Xi hb); have NB1_338 := Xnb hg BK1; have NB338_1 := Xns NB1_338; replace BK1 := Xbb BK1 hb; clear hb hbox hg; have hnb5 := NB338_1.out; have hnc5 := NB1_338.out; obtain ⟨hcz6_0, hcz6_1⟩ := Xc2 BK338; have hcz7_0 := (blk_cell BK1.out 0).trans XW.i0) | ((with_reducible refine gate_callee (f := 100) rfl ?_); refine Xgo 6 Try.func100 #[.agg #[.slice A0_0 l0_0.length c0_0, .int .i64 a0_1], .int .i64 a1_0] ?_; (with_reducible refine (impl_isTerm.calls k _ _ l0_0 a0_1 a1_0 t339 _ ?side1 ?side2 A3.out).mono ?_); (case side1 => exact Xc HR0_0); (case side2 => exact HC0_0.out); rintro e w8 ⟨rfl, hb⟩; refine ⟨_, rfl, ?_⟩; replace BK1 := Xbb BK1 hb; replace BK338 := Xbb BK338 hb; replace HB := Aside0.mk (below_step Xi hb); clear hb))
 go_ret
 exact ⟨Xe, Xi⟩
def slices_IndexFunc_impl_Term_impl_Term_at_impl_areTerms_1.l0 : Nat → List (S78) → Int → Int → Int → Option (Int)
 | 0, _, _, _, _ => none
 | k + 1, x0, x7, x8, x26000 => if x8 < x7 then (if 0 ≤ x8 then (if x8 < (x0.length : Int) then ((impl_areTerms_1.f k ((rd_T78 x0 x8).f0) ((rd_T78 x0 x8).f1) x26000).bind fun t341 => (if t341 = true then (some x8) else (slices_IndexFunc_impl_Term_impl_Term_at_impl_areTerms_1.l0 k x0 x7 (wrap64 (x8 + 1)) x26000))) else (none)) else (none)) else (some (-1))
def slices_IndexFunc_impl_Term_impl_Term_at_impl_areTerms_1.f (k : Nat) (l0 : List (S78)) (a1_0_0 : Int) : Option (Int) := slices_IndexFunc_impl_Term_impl_Term_at_impl_areTerms_1.l0 k l0 (l0.length : Int) 0 a1_0_0
theorem slices_IndexFunc_impl_Term_impl_Term_at_impl_areTerms_1.calls (k : Nat) (A0 : Option Addr) (c0 : Nat) (l0 : List (S78)) (g1_0_ : Nat) (a1_0_0 : Int) (r : Int) (w : World) (hr0 : Kd.C k78 w A0 l0.length l0) (hc0 : l0.length ≤ c0) (hg1_0_ : w.heap[g1_0_]? = some (.cells #[.int .i64 a1_0_0] 3 (0, 0))) (h : slices_IndexFunc_impl_Term_impl_Term_at_impl_areTerms_1.f k l0 a1_0_0 = some r) :
  Calls Try.prog 140 #[.slice A0 l0.length c0, .func (.func 99) #[] #[.pointer (some ⟨g1_0_, 0, none⟩)]] w fun e w' => e = .returned (.int .i64 r) ∧ Below w.heap.size w w' := by
 have hu78 := Try.underlying78
 have HR0 := Aside0.mk hr0
 have HC0 := Aside0.mk hc0
 clear hr0 hc0
 have BK25 := Aside0.mk hg1_0_
 clear hg1_0_
 have HB := Aside0.mk (Below.refl w.heap.size w)
 have H : (slices_IndexFunc_impl_Term_impl_Term_at_impl_areTerms_1.l0 k l0 (l0.length : Int) 0 a1_0_0) = some r := h
 clear h
 have H' := Aside0.mk H
 clear H
 go_enter Try.func140, Try.ntmps140
 go_wp2
 go_loopg [8] k (fun kq v8 w' => ∃ (x8_1 : Int), v8 = .int .i64 x8_1 ∧ Aside0 (slices_IndexFunc_impl_Term_impl_Term_at_impl_areTerms_1.l0 kq l0 (l0.length : Int) x8_1 a1_0_0 = some r) ∧ Aside0 (kq ≤ k) ∧ Aside0 (w'.heap[g1_0_]? = some (.cells #[.int .i64 a1_0_0] 3 (0, 0))) ∧ Aside0 (Below w.heap.size w w'))
 case atStart => exact ⟨(0), Xr, H', Xkr, BK25, ⟨Xi⟩⟩
 clear H'
 obtain ⟨x8_1, rfl, HA, HK1, BK25, HB⟩ := hrel
 cases gk with | zero => cases HA.out | succ k1 => ?_
 have H := HA.out
 clear HA
 simp only [slices_IndexFunc_impl_Term_impl_Term_at_impl_areTerms_1.l0] at H
 obtain ⟨c3b0, H⟩ | ⟨c3b0, H⟩ := Xit H
 ·obtain ⟨c4b0, H⟩ := Xid H
  obtain ⟨c5b0, H⟩ := Xid H
  obtain ⟨t341, A6, H⟩ := Xbi H
  (try dsimp only at H)
  have HC7 := Aside0.mk H
  clear H
  obtain ⟨ad340, A340_0, c340_0, e340, p340, q340, hx340_0, hx340_1, HC340_0, HR340_0⟩ := at_B78 HR0 x8_1 Xa Xa HB
  cases e340
  go_upto_if 16 with (first | (go_at_call 99; (with_reducible refine (impl_areTerms_1.calls k1 _ _ ((rd_T78 l0 x8_1).f0) ((rd_T78 l0 x8_1).f1) g1_0_ a1_0_0 t341 _ ?side1 ?side2 ?side3 A6.out).mono ?_); (case side1 => exact Xc HR340_0); (case side2 => exact HC340_0.out); (case side3 => exact BK25.out); rintro e w8 ⟨rfl, hb⟩; replace BK25 := Xbb BK25 hb; replace HB := Aside0.mk (below_step Xi hb); clear hb))
  have H := HC7.out
  clear HC7
  by_cases c9 : t341 = true
  ·subst c9
   (first | rw [if_pos rfl] at H | skip)
   obtain rfl := Option.some.inj H
   go_wp2
   go_ret
   exact ⟨Xe, Xi⟩
  replace c9 := Bool.eq_false_iff.mpr c9
  subst c9
  (first | rw [if_neg (show ¬ (false = true) by decide)] at H | skip)
  have H' := Aside0.mk H
  clear H
  go_wp2
  go_roundg k1
  case measure => have := HK1.out; omega
  case rel => exact ⟨(wrap64 (x8_1 + 1)), Xr, H', Xk1, BK25, ⟨Xi⟩⟩
 obtain rfl := Option.some.inj H
 go_wp2
 go_ret
 exact ⟨Xe, Xi⟩
def slices_ContainsFunc_impl_Term_impl_Term_at_impl_areTerms_1.f (k : Nat) (l0 : List (S78)) (a1_0_0 : Int) : Option (Bool) := (slices_IndexFunc_impl_Term_impl_Term_at_impl_areTerms_1.f k l0 a1_0_0).bind fun t342 => (some (decide (t342 ≥ 0)))
theorem slices_ContainsFunc_impl_Term_impl_Term_at_impl_areTerms_1.calls (k : Nat) (A0 : Option Addr) (c0 : Nat) (l0 : List (S78)) (g1_0_ : Nat) (a1_0_0 : Int) (r : Bool) (w : World) (hr0 : Kd.C k78 w A0 l0.length l0) (hc0 : l0.length ≤ c0) (hg1_0_ : w.heap[g1_0_]? = some (.cells #[.int .i64 a1_0_0] 3 (0, 0))) (h : slices_ContainsFunc_impl_Term_impl_Term_at_impl_areTerms_1.f k l0 a1_0_0 = some r) :
  Calls Try.prog 98 #[.slice A0 l0.length c0, .func (.func 99) #[] #[.pointer (some ⟨g1_0_, 0, none⟩)]] w fun e w' => e = .returned (.bool r) ∧ Below w.heap.size w w' := by
 have HR0 := Aside0.mk hr0
 have HC0 := Aside0.mk hc0
 clear hr0 hc0
 have BK25 := Aside0.mk hg1_0_
 clear hg1_0_
 have HB := Aside0.mk (Below.refl w.heap.size w)
 have H : ((slices_IndexFunc_impl_Term_impl_Term_at_impl_areTerms_1.f k l0 a1_0_0).bind fun t342 => (some (decide (t342 ≥ 0)))) = some r := h
 clear h
 obtain ⟨t342, A3, H⟩ := Xbi H
 (try dsimp only at H)
 obtain rfl := Option.some.inj H
 go_enter Try.func98, Try.ntmps98
 go_wp2_with (first | ((with_reducible refine gate_callee (f := 140) rfl ?_); refine Xgo 7 Try.func140 #[.slice A0 l0.length c0, .func (.func 99) #[] #[.pointer (some ⟨g1_0_, 0, none⟩)]] ?_; (with_reducible refine (slices_IndexFunc_impl_Term_impl_Term_at_impl_areTerms_1.calls k _ _ l0 g1_0_ a1_0_0 t342 _ ?side1 ?side2 ?side3 A3.out).mono ?_); (case side1 => repeat (first | exact HR0.out | (with_reducible first | refine Kd.C_alloc ?_ _ | refine Kd.C_drewN ?_ _ | refine Kd.C_drew ?_))); (case side2 => exact HC0.out); (case side3 => exact BK25.out); rintro e w4 ⟨rfl, hb⟩; refine ⟨_, rfl, ?_⟩; replace BK25 := Xbb BK25 hb; replace HB := Aside0.mk (below_step Xi hb); clear hb))
 go_ret
 exact ⟨Xe, Xi⟩
def impl_areTerms.f (k : Nat) (l0 : List (S78)) (a1 : Int) : Option (Bool) := if (l0.length : Int) ≤ 4 then ((slices_ContainsFunc_impl_Term_impl_Term_at_impl_areTerms_1.f k l0 a1).bind fun t344 => (some (!t344))) else (some false)
theorem impl_areTerms.calls (k : Nat) (A0 : Option Addr) (c0 : Nat) (l0 : List (S78)) (a1 : Int) (r : Bool) (w : World) (hr0 : Kd.C k78 w A0 l0.length l0) (hc0 : l0.length ≤ c0) (h : impl_areTerms.f k l0 a1 = some r) :
  Calls Try.prog 47 #[.slice A0 l0.length c0, .int .i64 a1] w fun e w' => e = .returned (.bool r) ∧ Below w.heap.size w w' := by
 have HR0 := Aside0.mk hr0
 have HC0 := Aside0.mk hc0
 clear hr0 hc0
 have HB := Aside0.mk (Below.refl w.heap.size w)
 have H : (if (l0.length : Int) ≤ 4 then ((slices_ContainsFunc_impl_Term_impl_Term_at_impl_areTerms_1.f k l0 a1).bind fun t344 => (some (!t344))) else (some false)) = some r := h
 clear h
 have HC3 := Aside0.mk H
 clear H
 go_enter Try.func47, Try.ntmps47
 go_upto_region 1 with (first | ((with_reducible refine gate_dst (N := 3) rfl ?_); refine Xbox 3 #[.int .i64 a1] 3 ?_; intro gb343 hg w4 hbox hb; have BK343 := Aside0.mk (hbox); have GE343 := Xge hg Xi; replace HB := Aside0.mk (below_step Xi hb); clear hb hbox hg))
 have H := HC3.out
 clear HC3
 obtain ⟨c5, H⟩ | ⟨c5, H⟩ := Xiu H
 ·have c5b0 : decide ((l0.length : Int) ≤ 4) = true := decide_eq_true c5
  have c5b1 : decide (l0.length ≤ 4) = true := decide_eq_true (by omega)
  clear c5
  obtain ⟨t344, A6, H⟩ := Xbi H
  (try dsimp only at H)
  obtain rfl := Option.some.inj H
  go_wp2_with (first | (go_at_call 98; (with_reducible refine (slices_ContainsFunc_impl_Term_impl_Term_at_impl_areTerms_1.calls k _ _ l0 gb343 a1 t344 _ ?side1 ?side2 ?side3 A6.out).mono ?_); (case side1 => exact Xc HR0); (case side2 => exact HC0.out); (case side3 => exact BK343.out); rintro e w7 ⟨rfl, hb⟩; replace BK343 := Xbb BK343 hb; replace HB := Aside0.mk (below_step Xi hb); clear hb))
  go_ret
  exact ⟨Xe, Xi⟩
 have c5b0 : decide ((l0.length : Int) ≤ 4) = false := decide_eq_false c5
 have c5b1 : decide (l0.length ≤ 4) = false := decide_eq_false (by omega)
 clear c5
 obtain rfl := Option.some.inj H
 go_wp2
 go_ret
 exact ⟨Xe, Xi⟩
def impl_isLetter.f (a0 : Int) : Option (Bool) := if a0 ≥ 97 then (if a0 ≤ 122 then (some true) else (if a0 ≥ 65 then (if a0 ≤ 90 then (some true) else (some (a0 == 95))) else (some (a0 == 95)))) else (if a0 ≥ 65 then (if a0 ≤ 90 then (some true) else (some (a0 == 95))) else (some (a0 == 95)))
theorem impl_isLetter.calls (a0 : Int) (r : Bool) (w : World) (h : impl_isLetter.f a0 = some r) :
  Calls Try.prog 160 #[.int .u8 a0] w fun e w' => e = .returned (.bool r) ∧ Drawn0 w w' := by
 have H : (if a0 ≥ 97 then (if a0 ≤ 122 then (some true) else (if a0 ≥ 65 then (if a0 ≤ 90 then (some true) else (some (a0 == 95))) else (some (a0 == 95)))) else (if a0 ≥ 65 then (if a0 ≤ 90 then (some true) else (some (a0 == 95))) else (some (a0 == 95)))) = some r := h
 clear h
 obtain ⟨c2, H⟩ | ⟨c2, H⟩ := Xiu H
 ·have c2b0 : decide (97 ≤ a0) = true := decide_eq_true c2
  clear c2
  obtain ⟨c3b0, H⟩ | ⟨c3b0, H⟩ := Xit H
  ·obtain rfl := Option.some.inj H
   go_enter Try.func160, Try.ntmps160
   go_wp2
   go_ret
   exact ⟨Xr, Xdr⟩
  obtain ⟨c4, H⟩ | ⟨c4, H⟩ := Xiu H
  ·have c4b0 : decide (65 ≤ a0) = true := decide_eq_true c4
   clear c4
   obtain ⟨c5b0, H⟩ | ⟨c5b0, H⟩ := Xit H
   ·obtain rfl := Option.some.inj H
    go_enter Try.func160, Try.ntmps160
    go_wp2
    go_ret
    exact ⟨Xr, Xdr⟩
   obtain rfl := Option.some.inj H
   go_enter Try.func160, Try.ntmps160
   go_wp2
   go_ret
   exact ⟨Xr, Xdr⟩
  have c4b0 : decide (65 ≤ a0) = false := decide_eq_false c4
  clear c4
  obtain rfl := Option.some.inj H
  go_enter Try.func160, Try.ntmps160
  go_wp2
  go_ret
  exact ⟨Xr, Xdr⟩
 have c2b0 : decide (97 ≤ a0) = false := decide_eq_false c2
 clear c2
 obtain ⟨c6, H⟩ | ⟨c6, H⟩ := Xiu H
 ·have c6b0 : decide (65 ≤ a0) = true := decide_eq_true c6
  clear c6
  obtain ⟨c7b0, H⟩ | ⟨c7b0, H⟩ := Xit H
  ·obtain rfl := Option.some.inj H
   go_enter Try.func160, Try.ntmps160
   go_wp2
   go_ret
   exact ⟨Xr, Xdr⟩
  obtain rfl := Option.some.inj H
  go_enter Try.func160, Try.ntmps160
  go_wp2
  go_ret
  exact ⟨Xr, Xdr⟩
 have c6b0 : decide (65 ≤ a0) = false := decide_eq_false c6
 clear c6
 obtain rfl := Option.some.inj H
 go_enter Try.func160, Try.ntmps160
 go_wp2
 go_ret
 exact ⟨Xr, Xdr⟩
mutual
def impl_NameOK.j0 : Nat → ByteArray → Bool → Option (Bool)
 | 0, _, _ => none
 | k + 1, x0, x17 => if x17 = true then (some false) else (impl_NameOK.l0 k x0 (x0.size : Int) 0)
def impl_NameOK.l0 : Nat → ByteArray → Int → Int → Option (Bool)
 | 0, _, _, _ => none
 | k + 1, x0, x19, x20 => if x20 < x19 then (if 0 ≤ x20 then (if x20 < (x0.size : Int) then ((impl_isLetter.f (bt x0 x20)).bind fun t346 => (if t346 = true then (impl_NameOK.l0 k x0 x19 (wrap64 (x20 + 1))) else (if (bt x0 x20) < 48 then (some false) else (if (bt x0 x20) > 57 then (some false) else (impl_NameOK.l0 k x0 x19 (wrap64 (x20 + 1))))))) else (none)) else (none)) else (some true)
end
def impl_NameOK.f (k : Nat) (a0 : ByteArray) : Option (Bool) := if (a0.size : Int) < 1 then (impl_NameOK.j0 k a0 true) else (if (a0.size : Int) > 12 then (impl_NameOK.j0 k a0 true) else (if 0 < (a0.size : Int) then ((impl_isLetter.f (bt a0 0)).bind fun t345 => (impl_NameOK.j0 k a0 (!t345))) else (none)))
theorem impl_NameOK.mono_l : ∀ k, (∀ y0 y1, LeO (impl_NameOK.j0 k y0 y1) (impl_NameOK.j0 (k + 1) y0 y1)) ∧ (∀ y0 y1 y2, LeO (impl_NameOK.l0 k y0 y1 y2) (impl_NameOK.l0 (k + 1) y0 y1 y2))
 | 0 => ⟨fun _ _ r h => by simp [impl_NameOK.j0] at h, fun _ _ _ r h => by simp [impl_NameOK.l0] at h⟩
 | k + 1 => by
  obtain ⟨ih0, ih1⟩ := impl_NameOK.mono_l k
  refine ⟨?_, ?_⟩
  ·intro y0 y1
   unfold impl_NameOK.j0
   repeat' first | (with_reducible first | exact ih0 _ _ | exact ih1 _ _ _ | exact LeO.refl _ | exact LeO.none _ | refine LeO.ite ?_ ?_ | refine LeO.bind ?_ (fun _ => ?_)) | exact ih0 _ _ | exact ih1 _ _ _ | exact LeO.none _ | refine LeO.ite ?_ ?_ | refine LeO.bind ?_ (fun _ => ?_)
  ·intro y0 y1 y2
   unfold impl_NameOK.l0
   repeat' first | (with_reducible first | exact ih0 _ _ | exact ih1 _ _ _ | exact LeO.refl _ | exact LeO.none _ | refine LeO.ite ?_ ?_ | refine LeO.bind ?_ (fun _ => ?_)) | exact ih0 _ _ | exact ih1 _ _ _ | exact LeO.none _ | refine LeO.ite ?_ ?_ | refine LeO.bind ?_ (fun _ => ?_)
theorem impl_NameOK.mono : ∀ a0 k, LeO (impl_NameOK.f k a0) (impl_NameOK.f (k + 1) a0) := by
 intro a0 k
 obtain ⟨ih0, ih1⟩ := impl_NameOK.mono_l k
 unfold impl_NameOK.f
 repeat' first | (with_reducible first | exact ih0 _ _ | exact ih1 _ _ _ | exact LeO.refl _ | exact LeO.none _ | refine LeO.ite ?_ ?_ | refine LeO.bind ?_ (fun _ => ?_)) | exact ih0 _ _ | exact ih1 _ _ _ | exact LeO.none _ | refine LeO.ite ?_ ?_ | refine LeO.bind ?_ (fun _ => ?_)
theorem impl_NameOK.calls (k : Nat) (a0 : ByteArray) (r : Bool) (w : World) (h : impl_NameOK.f k a0 = some r) :
  Calls Try.prog 145 #[.string a0] w fun e w' => e = .returned (.bool r) ∧ Drawn0 w w' := by
 have H : (if (a0.size : Int) < 1 then (impl_NameOK.j0 k a0 true) else (if (a0.size : Int) > 12 then (impl_NameOK.j0 k a0 true) else (if 0 < (a0.size : Int) then ((impl_isLetter.f (bt a0 0)).bind fun t345 => (impl_NameOK.j0 k a0 (!t345))) else (none)))) = some r := h
 clear h
 have HC2 := Aside0.mk H
 clear H
 go_enter Try.func145, Try.ntmps145
 go_upto_region 1 with (fail)
 go_cut [17] (fun v17 wc => ∃ (kq : Nat) (x17_1 : Bool), v17 = .bool x17_1 ∧ Aside0 (impl_NameOK.j0 kq a0 x17_1 = some r) ∧ Aside0 (kq ≤ k) ∧ Drawn0 w wc)
 case first =>
  have H := HC2.out
  clear HC2
  obtain ⟨c3, H⟩ | ⟨c3, H⟩ := Xiu H
  ·have c3b0 : decide ((a0.size : Int) < 1) = true := decide_eq_true c3
   have c3b1 : decide (a0.size < 1) = true := decide_eq_true (by omega)
   clear c3
   (first | rw [c3b0] | (simp only [i64_w, i32_w]; rw [c3b0]) | skip)
   have H' := Aside0.mk H
   clear H
   go_wp2
   go_meet
   case rel => exact ⟨_, (true), Xr, H', Xko, by repeat (first | exact Drawn0.refl _ | apply Drawn0.step)⟩
  have c3b0 : decide ((a0.size : Int) < 1) = false := decide_eq_false c3
  have c3b1 : decide (a0.size < 1) = false := decide_eq_false (by omega)
  clear c3
  (first | rw [c3b0] | (simp only [i64_w, i32_w]; rw [c3b0]) | skip)
  obtain ⟨c4, H⟩ | ⟨c4, H⟩ := Xiu H
  ·have c4b0 : decide (12 < (a0.size : Int)) = true := decide_eq_true c4
   have c4b1 : decide (12 < a0.size) = true := decide_eq_true (by omega)
   clear c4
   have H' := Aside0.mk H
   clear H
   go_wp2
   go_meet
   case rel => exact ⟨_, (true), Xr, H', Xko, by repeat (first | exact Drawn0.refl _ | apply Drawn0.step)⟩
  have c4b0 : decide (12 < (a0.size : Int)) = false := decide_eq_false c4
  have c4b1 : decide (12 < a0.size) = false := decide_eq_false (by omega)
  clear c4
  obtain ⟨c5, H⟩ := Xif H
  have c5b0 : decide (0 < (a0.size : Int)) = true := decide_eq_true c5
  have c5b1 : decide (0 < a0.size) = true := decide_eq_true (by omega)
  clear c5
  obtain ⟨t345, A7, H⟩ := Xbi H
  (try dsimp only at H)
  have H' := Aside0.mk H
  clear H
  have p6 : 0 ≤ (0 : Int) := (by omega)
  have q6 : 0 < a0.size := (by have : (0 : Int) < (a0.size : Int) := of_decide_eq_true Xa; omega)
  have hx6 : ∀ h : 0 < a0.size, ((a0[0]'h).toNat : Int) = bt a0 0 := bt_at a0 0
  clear p6
  have qi6 : (0 < (a0.size : Int)) = True := eq_true (of_decide_eq_true Xa)
  replace q6 := eq_true q6
  go_wp2_with (first | (go_at_call 160; (with_reducible refine (impl_isLetter.calls (bt a0 0) t345 _ A7.out).mono ?_); rintro e w' ⟨rfl, ⟨nd, rfl⟩⟩))
  go_meet
  case rel => exact ⟨_, (!t345), Xr, H', Xko, by repeat (first | exact Drawn0.refl _ | apply Drawn0.step)⟩
 clear HC2
 obtain ⟨kq, x17_1, rfl, HA, HJ1, ⟨mc1, rfl⟩⟩ := hcut
 cases kq with | zero => cases HA.out | succ kj1 => ?_
 have H := HA.out
 clear HA
 simp only [impl_NameOK.j0] at H
 by_cases c8 : x17_1 = true
 ·subst c8
  (first | rw [if_pos rfl] at H | skip)
  obtain rfl := Option.some.inj H
  go_wp2
  go_ret
  exact ⟨Xr, Xdr⟩
 replace c8 := Bool.eq_false_iff.mpr c8
 subst c8
 (first | rw [if_neg (show ¬ (false = true) by decide)] at H | skip)
 have H' := Aside0.mk H
 clear H
 go_wp2
 go_loopg [20] kj1 (fun kq v20 w' => ∃ (x20_2 : Int), v20 = .int .i64 x20_2 ∧ Aside0 (impl_NameOK.l0 kq a0 (a0.size : Int) x20_2 = some r) ∧ Aside0 (kq ≤ kj1) ∧ Drawn0 w w')
 case atStart => exact ⟨(0), Xr, H', Xkr, by repeat (first | exact Drawn0.refl _ | apply Drawn0.step)⟩
 clear H'
 (try clear c8)
 obtain ⟨x20_2, rfl, HA, HK2, ⟨m2, rfl⟩⟩ := hrel
 cases gk with | zero => cases HA.out | succ k2 => ?_
 have H := HA.out
 clear HA
 simp only [impl_NameOK.l0] at H
 obtain ⟨c9b0, H⟩ | ⟨c9b0, H⟩ := Xit H
 ·obtain ⟨c10b0, H⟩ := Xid H
  obtain ⟨c11b0, H⟩ := Xid H
  obtain ⟨t346, A13, H⟩ := Xbi H
  (try dsimp only at H)
  by_cases c14 : t346 = true
  ·subst c14
   (first | rw [if_pos rfl] at H | skip)
   have H' := Aside0.mk H
   clear H
   have p12 : 0 ≤ (x20_2 : Int) := of_decide_eq_true Xa
   have q12 : x20_2 < (a0.size : Int) := of_decide_eq_true Xa
   have hx12 := bt_at a0 x20_2
   replace p12 := eq_true p12
   replace q12 := eq_true q12
   go_wp2_with (first | ((with_reducible refine gate_callee (f := 160) rfl ?_); refine Xgo 26 Try.func160 #[.int .u8 (bt a0 x20_2)] ?_; (with_reducible refine (impl_isLetter.calls (bt a0 x20_2) true _ A13.out).mono ?_); rintro e w' ⟨rfl, ⟨nd, rfl⟩⟩; refine ⟨_, rfl, ?_⟩))
   go_roundg k2
   case measure => have := HJ1.out; have := HK2.out; omega
   case rel => exact ⟨(wrap64 (x20_2 + 1)), Xr, H', ⟨by have := HJ1.out; have := HK2.out; omega⟩, by repeat (first | exact Drawn0.refl _ | apply Drawn0.step)⟩
  replace c14 := Bool.eq_false_iff.mpr c14
  subst c14
  (first | rw [if_neg (show ¬ (false = true) by decide)] at H | skip)
  obtain ⟨c16b0, H⟩ | ⟨c16b0, H⟩ := Xit H
  ·obtain rfl := Option.some.inj H
   have p12 : 0 ≤ (x20_2 : Int) := of_decide_eq_true Xa
   have q12 : x20_2 < (a0.size : Int) := of_decide_eq_true Xa
   have hx12 := bt_at a0 x20_2
   replace p12 := eq_true p12
   replace q12 := eq_true q12
   go_wp2_with (first | ((with_reducible refine gate_callee (f := 160) rfl ?_); refine Xgo 26 Try.func160 #[.int .u8 (bt a0 x20_2)] ?_; (with_reducible refine (impl_isLetter.calls (bt a0 x20_2) false _ A13.out).mono ?_); rintro e w' ⟨rfl, ⟨nd, rfl⟩⟩; refine ⟨_, rfl, ?_⟩; have p15 : 0 ≤ (x20_2 : Int) := of_decide_eq_true Xa; have q15 : x20_2 < (a0.size : Int) := of_decide_eq_true Xa; have hx15 := bt_at a0 x20_2; replace p15 := eq_true p15; replace q15 := eq_true q15))
   go_ret
   exact ⟨Xr, Xdr⟩
  have HC18 := Aside0.mk H
  clear H
  have p12 : 0 ≤ (x20_2 : Int) := of_decide_eq_true Xa
  have q12 : x20_2 < (a0.size : Int) := of_decide_eq_true Xa
  have hx12 := bt_at a0 x20_2
  replace p12 := eq_true p12
  replace q12 := eq_true q12
  go_upto_if 39 with (first | ((with_reducible refine gate_callee (f := 160) rfl ?_); refine Xgo 26 Try.func160 #[.int .u8 (bt a0 x20_2)] ?_; (with_reducible refine (impl_isLetter.calls (bt a0 x20_2) false _ A13.out).mono ?_); rintro e w' ⟨rfl, ⟨nd, rfl⟩⟩; refine ⟨_, rfl, ?_⟩; have p15 : 0 ≤ (x20_2 : Int) := of_decide_eq_true Xa; have q15 : x20_2 < (a0.size : Int) := of_decide_eq_true Xa; have hx15 := bt_at a0 x20_2; replace p15 := eq_true p15; replace q15 := eq_true q15; have p17 : 0 ≤ (x20_2 : Int) := of_decide_eq_true Xa; have q17 : x20_2 < (a0.size : Int) := of_decide_eq_true Xa; have hx17 := bt_at a0 x20_2; replace p17 := eq_true p17; replace q17 := eq_true q17))
  have H := HC18.out
  clear HC18
  obtain ⟨c19, H⟩ | ⟨c19, H⟩ := Xiu H
  ·have c19b0 : decide (57 < (bt a0 x20_2)) = true := decide_eq_true c19
   clear c19
   (first | rw [c19b0] | (simp only [i64_w, i32_w]; rw [c19b0]) | skip)
   obtain rfl := Option.some.inj H
   go_wp2
   go_ret
   exact ⟨Xr, Xdr⟩
  have c19b0 : decide (57 < (bt a0 x20_2)) = false := decide_eq_false c19
  clear c19
  (first | rw [c19b0] | (simp only [i64_w, i32_w]; rw [c19b0]) | skip)
  have H' := Aside0.mk H
  clear H
  go_wp2
  go_roundg k2
  case measure => have := HJ1.out; have := HK2.out; omega
  case rel => exact ⟨(wrap64 (x20_2 + 1)), Xr, H', ⟨by have := HJ1.out; have := HK2.out; omega⟩, by repeat (first | exact Drawn0.refl _ | apply Drawn0.step)⟩
 obtain rfl := Option.some.inj H
 go_wp2
 go_ret
 exact ⟨Xr, Xdr⟩
def impl_RuleOK.f (k : Nat) (a0_0 : ByteArray) (a0_1 : Bool) (l0_2 : List (S78)) (a1 : Int) : Option (Bool) := (impl_within.f a1 1 8).bind fun t348 => (if t348 = true then ((impl_NameOK.f k a0_0).bind fun t349 => (if t349 = true then (if a0_0.toList = ([116, 101, 120, 116] : List UInt8) then (some false) else (if a0_1 = true then (if (l0_2.length : Int) = 0 then ((impl_areTerms.f k l0_2 a1).bind fun t350 => (some t350)) else (some false)) else ((impl_areTerms.f k l0_2 a1).bind fun t351 => (some t351)))) else (some false))) else (some false))
theorem impl_RuleOK.calls (k : Nat) (a0_0 : ByteArray) (a0_1 : Bool) (A0_2 : Option Addr) (c0_2 : Nat) (l0_2 : List (S78)) (a1 : Int) (r : Bool) (w : World) (hr0_2 : Kd.C k78 w A0_2 l0_2.length l0_2) (hc0_2 : l0_2.length ≤ c0_2) (h : impl_RuleOK.f k a0_0 a0_1 l0_2 a1 = some r) :
  Calls Try.prog 115 #[.agg #[.string a0_0, .bool a0_1, .slice A0_2 l0_2.length c0_2], .int .i64 a1] w fun e w' => e = .returned (.bool r) ∧ Below w.heap.size w w' := by
 have hu97 := Try.underlying97
 have HR0_2 := Aside0.mk hr0_2
 have HC0_2 := Aside0.mk hc0_2
 clear hr0_2 hc0_2
 have HB := Aside0.mk (Below.refl w.heap.size w)
 have H : ((impl_within.f a1 1 8).bind fun t348 => (if t348 = true then ((impl_NameOK.f k a0_0).bind fun t349 => (if t349 = true then (if a0_0.toList = ([116, 101, 120, 116] : List UInt8) then (some false) else (if a0_1 = true then (if (l0_2.length : Int) = 0 then ((impl_areTerms.f k l0_2 a1).bind fun t350 => (some t350)) else (some false)) else ((impl_areTerms.f k l0_2 a1).bind fun t351 => (some t351)))) else (some false))) else (some false))) = some r := h
 clear h
 have HC3 := Aside0.mk H
 clear H
 go_enter Try.func115, Try.ntmps115
 go_upto_region 1 with (first | ((with_reducible refine gate_dst (N := 2) rfl ?_); (try (refine gate_guard (by rfl) ?_; dsimp only)); refine Xbox 2 #[.string a0_0, .bool a0_1, .slice A0_2 l0_2.length c0_2] 97 ?_; intro gb347 hg w4 hbox hb; have BK347 := Aside0.mk (hbox); have GE347 := Xge hg Xi; replace HB := Aside0.mk (below_step Xi hb); clear hb hbox hg))
 have H := HC3.out
 clear HC3
 obtain ⟨t348, A5, H⟩ := Xbi H
 (try dsimp only at H)
 by_cases c6 : t348 = true
 ·subst c6
  (first | rw [if_pos rfl] at H | skip)
  obtain ⟨t349, A7, H⟩ := Xbi H
  (try dsimp only at H)
  by_cases c8 : t349 = true
  ·subst c8
   (first | rw [if_pos rfl] at H | skip)
   obtain ⟨c9, H⟩ | ⟨c9, H⟩ := Xiu H
   ·have c9b0 : (a0_0.toList == ([116, 101, 120, 116] : List UInt8)) = true := beq_iff_eq.mpr c9
    have c9b1 : (a0_0.toList != ([116, 101, 120, 116] : List UInt8)) = false := bne_eq_false_iff_eq.mpr c9
    clear c9
    obtain rfl := Option.some.inj H
    go_wp2_with (first | ((with_reducible refine gate_callee (f := 107) rfl ?_); refine Xgo 6 Try.func107 #[.int .i64 a1, .int .i64 1, .int .i64 8] ?_; (with_reducible refine (impl_within.calls a1 1 8 true _ A5.out).mono ?_); rintro e w' ⟨rfl, ⟨nd, rfl⟩⟩; refine ⟨_, rfl, ?_⟩; obtain ⟨hcz10_0, hcz10_1, hcz10_2⟩ := Xc3 BK347) | (go_at_call 145; (with_reducible refine (impl_NameOK.calls k a0_0 true _ A7.out).mono ?_); rintro e w' ⟨rfl, ⟨nd, rfl⟩⟩))
    go_ret
    exact ⟨Xe, Xi⟩
   have c9b0 : (a0_0.toList == ([116, 101, 120, 116] : List UInt8)) = false := beq_eq_false_iff_ne.mpr c9
   have c9b1 : (a0_0.toList != ([116, 101, 120, 116] : List UInt8)) = true := bne_iff_ne.mpr c9
   by_cases c11 : a0_1 = true
   ·subst c11
    (first | rw [if_pos rfl] at H | skip)
    obtain ⟨c12, H⟩ | ⟨c12, H⟩ := Xiu H
    ·have c12b0 : ((l0_2.length : Int) == 0) = true := beq_iff_eq.mpr c12
     have c12b1 : ((l0_2.length : Int) != 0) = false := bne_eq_false_iff_eq.mpr c12
     clear c12
     obtain ⟨t350, A13, H⟩ := Xbi H
     (try dsimp only at H)
     obtain rfl := Option.some.inj H
     go_wp2_with (first | ((with_reducible refine gate_callee (f := 107) rfl ?_); refine Xgo 6 Try.func107 #[.int .i64 a1, .int .i64 1, .int .i64 8] ?_; (with_reducible refine (impl_within.calls a1 1 8 true _ A5.out).mono ?_); rintro e w' ⟨rfl, ⟨nd, rfl⟩⟩; refine ⟨_, rfl, ?_⟩; obtain ⟨hcz14_0, hcz14_1, hcz14_2⟩ := Xc3 BK347) | (go_at_call 145; (with_reducible refine (impl_NameOK.calls k a0_0 true _ A7.out).mono ?_); rintro e w' ⟨rfl, ⟨nd, rfl⟩⟩) | (go_at_call 47; (with_reducible refine (impl_areTerms.calls k _ _ l0_2 a1 t350 _ ?side1 ?side2 A13.out).mono ?_); (case side1 => exact Xc HR0_2); (case side2 => exact HC0_2.out); rintro e w15 ⟨rfl, hb⟩; replace BK347 := Xbb BK347 hb; replace HB := Aside0.mk (below_step Xi hb); clear hb))
     go_ret
     exact ⟨Xe, Xi⟩
    have c12b0 : ((l0_2.length : Int) == 0) = false := beq_eq_false_iff_ne.mpr c12
    have c12b1 : ((l0_2.length : Int) != 0) = true := bne_iff_ne.mpr c12
    have c12b2 : ¬ (l0_2 = []) := fun h_ => c12 (by rw [h_]; rfl)
    obtain rfl := Option.some.inj H
    go_wp2_with (first | ((with_reducible refine gate_callee (f := 107) rfl ?_); refine Xgo 6 Try.func107 #[.int .i64 a1, .int .i64 1, .int .i64 8] ?_; (with_reducible refine (impl_within.calls a1 1 8 true _ A5.out).mono ?_); rintro e w' ⟨rfl, ⟨nd, rfl⟩⟩; refine ⟨_, rfl, ?_⟩; obtain ⟨hcz16_0, hcz16_1, hcz16_2⟩ := Xc3 BK347) | (go_at_call 145; (with_reducible refine (impl_NameOK.calls k a0_0 true _ A7.out).mono ?_); rintro e w' ⟨rfl, ⟨nd, rfl⟩⟩))
    go_ret
    exact ⟨Xe, Xi⟩
   replace c11 := Bool.eq_false_iff.mpr c11
   subst c11
   (first | rw [if_neg (show ¬ (false = true) by decide)] at H | skip)
   obtain ⟨t351, A17, H⟩ := Xbi H
   (try dsimp only at H)
   obtain rfl := Option.some.inj H
   go_wp2_with (first | ((with_reducible refine gate_callee (f := 107) rfl ?_); refine Xgo 6 Try.func107 #[.int .i64 a1, .int .i64 1, .int .i64 8] ?_; (with_reducible refine (impl_within.calls a1 1 8 true _ A5.out).mono ?_); rintro e w' ⟨rfl, ⟨nd, rfl⟩⟩; refine ⟨_, rfl, ?_⟩; obtain ⟨hcz18_0, hcz18_1, hcz18_2⟩ := Xc3 BK347) | (go_at_call 145; (with_reducible refine (impl_NameOK.calls k a0_0 true _ A7.out).mono ?_); rintro e w' ⟨rfl, ⟨nd, rfl⟩⟩) | (go_at_call 47; (with_reducible refine (impl_areTerms.calls k _ _ l0_2 a1 t351 _ ?side1 ?side2 A17.out).mono ?_); (case side1 => exact Xc HR0_2); (case side2 => exact HC0_2.out); rintro e w19 ⟨rfl, hb⟩; replace BK347 := Xbb BK347 hb; replace HB := Aside0.mk (below_step Xi hb); clear hb))
   go_ret
   exact ⟨Xe, Xi⟩
  replace c8 := Bool.eq_false_iff.mpr c8
  subst c8
  (first | rw [if_neg (show ¬ (false = true) by decide)] at H | skip)
  obtain rfl := Option.some.inj H
  go_wp2_with (first | ((with_reducible refine gate_callee (f := 107) rfl ?_); refine Xgo 6 Try.func107 #[.int .i64 a1, .int .i64 1, .int .i64 8] ?_; (with_reducible refine (impl_within.calls a1 1 8 true _ A5.out).mono ?_); rintro e w' ⟨rfl, ⟨nd, rfl⟩⟩; refine ⟨_, rfl, ?_⟩; obtain ⟨hcz20_0, hcz20_1, hcz20_2⟩ := Xc3 BK347) | (go_at_call 145; (with_reducible refine (impl_NameOK.calls k a0_0 false _ A7.out).mono ?_); rintro e w' ⟨rfl, ⟨nd, rfl⟩⟩))
  go_ret
  exact ⟨Xe, Xi⟩
 replace c6 := Bool.eq_false_iff.mpr c6
 subst c6
 (first | rw [if_neg (show ¬ (false = true) by decide)] at H | skip)
 obtain rfl := Option.some.inj H
 go_wp2_with (first | ((with_reducible refine gate_callee (f := 107) rfl ?_); refine Xgo 6 Try.func107 #[.int .i64 a1, .int .i64 1, .int .i64 8] ?_; (with_reducible refine (impl_within.calls a1 1 8 false _ A5.out).mono ?_); rintro e w' ⟨rfl, ⟨nd, rfl⟩⟩; refine ⟨_, rfl, ?_⟩))
 go_ret
 exact ⟨Xe, Xi⟩
def impl_kindOf_1.f (a0_0 : ByteArray) (a0_1 : Bool) (l0_2 : List (S78)) (a1_0 : ByteArray) : Option (Bool) := some (a0_0.toList == a1_0.toList)
theorem impl_kindOf_1.calls (a0_0 : ByteArray) (a0_1 : Bool) (A0_2 : Option Addr) (c0_2 : Nat) (l0_2 : List (S78)) (g1_ : Nat) (a1_0 : ByteArray) (r : Bool) (w : World) (hr0_2 : Kd.C k78 w A0_2 l0_2.length l0_2) (hc0_2 : l0_2.length ≤ c0_2) (hg1_ : w.heap[g1_]? = some (.cells #[.string a1_0] 9 (0, 0))) (h : impl_kindOf_1.f a0_0 a0_1 l0_2 a1_0 = some r) :
  Calls Try.prog 147 #[.agg #[.string a0_0, .bool a0_1, .slice A0_2 l0_2.length c0_2], .pointer (some ⟨g1_, 0, none⟩)] w fun e w' => e = .returned (.bool r) ∧ Below w.heap.size w w' := by
 have hu97 := Try.underlying97
 have HR0_2 := Aside0.mk hr0_2
 have HC0_2 := Aside0.mk hc0_2
 clear hr0_2 hc0_2
 have BK1 := Aside0.mk hg1_
 clear hg1_
 have HB := Aside0.mk (Below.refl w.heap.size w)
 have H : (some (a0_0.toList == a1_0.toList)) = some r := h
 clear h
 obtain rfl := Option.some.inj H
 go_enter Try.func147, Try.ntmps147
 go_wp2_with (first | ((with_reducible refine gate_dst (N := 2) rfl ?_); refine Xbox 2 #[.string a0_0, .bool a0_1, .slice A0_2 l0_2.length c0_2] 97 ?_; intro gb354 hg w3 hbox hb; have BK354 := Aside0.mk (hbox); have GE354 := Xge hg Xi; replace HB := Aside0.mk (below_step Xi hb); have NB1_354 := Xnb hg BK1; have NB354_1 := Xns NB1_354; replace BK1 := Xbb BK1 hb; clear hb hbox hg; have hnb4 := NB354_1.out; have hnc4 := NB1_354.out; obtain ⟨hcz5_0, hcz5_1, hcz5_2⟩ := Xc3 BK354; have hcz6_0 := (blk_cell BK1.out 0).trans XW.i0))
 go_ret
 exact ⟨Xe, Xi⟩
def slices_IndexFunc_impl_Rule_impl_Rule_at_impl_kindOf_1.l0 : Nat → List (S97) → Int → Int → ByteArray → Option (Int)
 | 0, _, _, _, _ => none
 | k + 1, x0, x7, x8, x26000 => if x8 < x7 then (if 0 ≤ x8 then (if x8 < (x0.length : Int) then ((impl_kindOf_1.f ((rd_T97 x0 x8).f0) ((rd_T97 x0 x8).f1) ((rd_T97 x0 x8).f2) x26000).bind fun t356 => (if t356 = true then (some x8) else (slices_IndexFunc_impl_Rule_impl_Rule_at_impl_kindOf_1.l0 k x0 x7 (wrap64 (x8 + 1)) x26000))) else (none)) else (none)) else (some (-1))
def slices_IndexFunc_impl_Rule_impl_Rule_at_impl_kindOf_1.f (k : Nat) (l0 : List (S97)) (a1_0_0 : ByteArray) : Option (Int) := slices_IndexFunc_impl_Rule_impl_Rule_at_impl_kindOf_1.l0 k l0 (l0.length : Int) 0 a1_0_0
theorem slices_IndexFunc_impl_Rule_impl_Rule_at_impl_kindOf_1.calls (k : Nat) (A0 : Option Addr) (c0 : Nat) (l0 : List (S97)) (g1_0_ : Nat) (a1_0_0 : ByteArray) (r : Int) (w : World) (hr0 : Kd.C k97 w A0 l0.length l0) (hc0 : l0.length ≤ c0) (hg1_0_ : w.heap[g1_0_]? = some (.cells #[.string a1_0_0] 9 (0, 0))) (h : slices_IndexFunc_impl_Rule_impl_Rule_at_impl_kindOf_1.f k l0 a1_0_0 = some r) :
  Calls Try.prog 146 #[.slice A0 l0.length c0, .func (.func 147) #[] #[.pointer (some ⟨g1_0_, 0, none⟩)]] w fun e w' => e = .returned (.int .i64 r) ∧ Below w.heap.size w w' := by
 have hu97 := Try.underlying97
 have HR0 := Aside0.mk hr0
 have HC0 := Aside0.mk hc0
 clear hr0 hc0
 have BK25 := Aside0.mk hg1_0_
 clear hg1_0_
 have HB := Aside0.mk (Below.refl w.heap.size w)
 have H : (slices_IndexFunc_impl_Rule_impl_Rule_at_impl_kindOf_1.l0 k l0 (l0.length : Int) 0 a1_0_0) = some r := h
 clear h
 have H' := Aside0.mk H
 clear H
 go_enter Try.func146, Try.ntmps146
 go_wp2
 go_loopg [8] k (fun kq v8 w' => ∃ (x8_1 : Int), v8 = .int .i64 x8_1 ∧ Aside0 (slices_IndexFunc_impl_Rule_impl_Rule_at_impl_kindOf_1.l0 kq l0 (l0.length : Int) x8_1 a1_0_0 = some r) ∧ Aside0 (kq ≤ k) ∧ Aside0 (w'.heap[g1_0_]? = some (.cells #[.string a1_0_0] 9 (0, 0))) ∧ Aside0 (Below w.heap.size w w'))
 case atStart => exact ⟨(0), Xr, H', Xkr, BK25, ⟨Xi⟩⟩
 clear H'
 obtain ⟨x8_1, rfl, HA, HK1, BK25, HB⟩ := hrel
 cases gk with | zero => cases HA.out | succ k1 => ?_
 have H := HA.out
 clear HA
 simp only [slices_IndexFunc_impl_Rule_impl_Rule_at_impl_kindOf_1.l0] at H
 obtain ⟨c3b0, H⟩ | ⟨c3b0, H⟩ := Xit H
 ·obtain ⟨c4b0, H⟩ := Xid H
  obtain ⟨c5b0, H⟩ := Xid H
  obtain ⟨t356, A6, H⟩ := Xbi H
  (try dsimp only at H)
  have HC7 := Aside0.mk H
  clear H
  obtain ⟨ad355, A355_2, c355_2, e355, p355, q355, hx355_0, hx355_1, hx355_2, HC355_2, HR355_2⟩ := at_B97 HR0 x8_1 Xa Xa HB
  cases e355
  go_upto_if 16 with (first | (go_at_call 147; (with_reducible refine (impl_kindOf_1.calls ((rd_T97 l0 x8_1).f0) ((rd_T97 l0 x8_1).f1) _ _ ((rd_T97 l0 x8_1).f2) g1_0_ a1_0_0 t356 _ ?side1 ?side2 ?side3 A6.out).mono ?_); (case side1 => exact Xc HR355_2); (case side2 => exact HC355_2.out); (case side3 => exact BK25.out); rintro e w8 ⟨rfl, hb⟩; replace BK25 := Xbb BK25 hb; replace HB := Aside0.mk (below_step Xi hb); clear hb))
  have H := HC7.out
  clear HC7
  by_cases c9 : t356 = true
  ·subst c9
   (first | rw [if_pos rfl] at H | skip)
   obtain rfl := Option.some.inj H
   go_wp2
   go_ret
   exact ⟨Xe, Xi⟩
  replace c9 := Bool.eq_false_iff.mpr c9
  subst c9
  (first | rw [if_neg (show ¬ (false = true) by decide)] at H | skip)
  have H' := Aside0.mk H
  clear H
  go_wp2
  go_roundg k1
  case measure => have := HK1.out; omega
  case rel => exact ⟨(wrap64 (x8_1 + 1)), Xr, H', Xk1, BK25, ⟨Xi⟩⟩
 obtain rfl := Option.some.inj H
 go_wp2
 go_ret
 exact ⟨Xe, Xi⟩
def impl_kindOf.f (k : Nat) (l0 : List (S97)) (a1 : ByteArray) : Option (Int) := (slices_IndexFunc_impl_Rule_impl_Rule_at_impl_kindOf_1.f k l0 a1).bind fun t358 => (some (wrap64 (t358 + 1)))
theorem impl_kindOf.calls (k : Nat) (A0 : Option Addr) (c0 : Nat) (l0 : List (S97)) (a1 : ByteArray) (r : Int) (w : World) (hr0 : Kd.C k97 w A0 l0.length l0) (hc0 : l0.length ≤ c0) (h : impl_kindOf.f k l0 a1 = some r) :
  Calls Try.prog 116 #[.slice A0 l0.length c0, .string a1] w fun e w' => e = .returned (.int .i64 r) ∧ Below w.heap.size w w' := by
 have HR0 := Aside0.mk hr0
 have HC0 := Aside0.mk hc0
 clear hr0 hc0
 have HB := Aside0.mk (Below.refl w.heap.size w)
 have H : ((slices_IndexFunc_impl_Rule_impl_Rule_at_impl_kindOf_1.f k l0 a1).bind fun t358 => (some (wrap64 (t358 + 1)))) = some r := h
 clear h
 obtain ⟨t358, A3, H⟩ := Xbi H
 (try dsimp only at H)
 obtain rfl := Option.some.inj H
 go_enter Try.func116, Try.ntmps116
 go_wp2_with (first | ((with_reducible refine gate_dst (N := 3) rfl ?_); refine Xbox 3 #[.string a1] 9 ?_; intro gb357 hg w4 hbox hb; have BK357 := Aside0.mk (hbox); have GE357 := Xge hg Xi; replace HB := Aside0.mk (below_step Xi hb); clear hb hbox hg) | ((with_reducible refine gate_callee (f := 146) rfl ?_); refine Xgo 7 Try.func146 #[.slice A0 l0.length c0, .func (.func 147) #[] #[.pointer (some ⟨gb357, 0, none⟩)]] ?_; (with_reducible refine (slices_IndexFunc_impl_Rule_impl_Rule_at_impl_kindOf_1.calls k _ _ l0 gb357 a1 t358 _ ?side1 ?side2 ?side3 A3.out).mono ?_); (case side1 => exact Xc HR0); (case side2 => exact HC0.out); (case side3 => exact BK357.out); rintro e w5 ⟨rfl, hb⟩; refine ⟨_, rfl, ?_⟩; replace BK357 := Xbb BK357 hb; replace HB := Aside0.mk (below_step Xi hb); clear hb))
 go_ret
 exact ⟨Xe, Xi⟩
def impl_SchemaOK.l0 : Nat → List (S97) → List (S97) → Int → Int → Option (Bool)
 | 0, _, _, _, _ => none
 | k + 1, x0, x9, x10, x11 => if x11 < x10 then (if 0 ≤ x11 then (if x11 < (x9.length : Int) then ((impl_RuleOK.f k ((rd_T97 x9 x11).f0) ((rd_T97 x9 x11).f1) ((rd_T97 x9 x11).f2) (x0.length : Int)).bind fun t362 => (if t362 = true then ((impl_kindOf.f k x0 ((rd_T97 x9 x11).f0)).bind fun t363 => (if t363 = (wrap64 (x11 + 1)) then (impl_SchemaOK.l0 k x0 x9 x10 (wrap64 (x11 + 1))) else (some false))) else (some false))) else (none)) else (none)) else (some true)
def impl_SchemaOK.f (k : Nat) (l0 : List (S97)) : Option (Bool) := (impl_within.f (l0.length : Int) 1 8).bind fun t359 => (if t359 = true then (impl_SchemaOK.l0 k l0 l0 (l0.length : Int) 0) else (some false))
theorem impl_SchemaOK.calls (k : Nat) (A0 : Option Addr) (c0 : Nat) (l0 : List (S97)) (r : Bool) (w : World) (hr0 : Kd.C k97 w A0 l0.length l0) (hc0 : l0.length ≤ c0) (h : impl_SchemaOK.f k l0 = some r) :
  Calls Try.prog 69 #[.slice A0 l0.length c0] w fun e w' => e = .returned (.bool r) ∧ Below w.heap.size w w' := by
 have hu97 := Try.underlying97
 have HR0 := Aside0.mk hr0
 have HC0 := Aside0.mk hc0
 clear hr0 hc0
 have HB := Aside0.mk (Below.refl w.heap.size w)
 have H : ((impl_within.f (l0.length : Int) 1 8).bind fun t359 => (if t359 = true then (impl_SchemaOK.l0 k l0 l0 (l0.length : Int) 0) else (some false))) = some r := h
 clear h
 obtain ⟨t359, A2, H⟩ := Xbi H
 (try dsimp only at H)
 have HC3 := Aside0.mk H
 clear H
 go_enter Try.func69, Try.ntmps69
 go_upto_if 8 with (first | ((with_reducible refine gate_callee (f := 107) rfl ?_); refine Xgo 7 Try.func107 #[.int .i64 (l0.length : Int), .int .i64 1, .int .i64 8] ?_; (with_reducible refine (impl_within.calls (l0.length : Int) 1 8 t359 _ A2.out).mono ?_); rintro e w' ⟨rfl, ⟨nd, rfl⟩⟩; refine ⟨_, rfl, ?_⟩))
 have H := HC3.out
 clear HC3
 by_cases c4 : t359 = true
 ·subst c4
  (first | rw [if_pos rfl] at H | skip)
  have H' := Aside0.mk H
  clear H
  go_wp2
  go_loopg [11] k (fun kq v11 w' => ∃ (x11_1 : Int), v11 = .int .i64 x11_1 ∧ Aside0 (impl_SchemaOK.l0 kq l0 l0 (l0.length : Int) x11_1 = some r) ∧ Aside0 (kq ≤ k) ∧ Aside0 (Below w.heap.size w w'))
  case atStart => exact ⟨(0), Xr, H', Xkr, ⟨Xi⟩⟩
  clear H'
  (try clear c4)
  obtain ⟨x11_1, rfl, HA, HK1, HB⟩ := hrel
  cases gk with | zero => cases HA.out | succ k1 => ?_
  have H := HA.out
  clear HA
  simp only [impl_SchemaOK.l0] at H
  obtain ⟨c5b0, H⟩ | ⟨c5b0, H⟩ := Xit H
  ·(first | rw [c5b0] | (simp only [i64_w, i32_w]; rw [c5b0]) | skip)
   obtain ⟨c6b0, H⟩ := Xid H
   obtain ⟨c7b0, H⟩ := Xid H
   have HC8 := Aside0.mk H
   clear H
   obtain ⟨ad360, A360_2, c360_2, e360, p360, q360, hx360_0, hx360_1, hx360_2, HC360_2, HR360_2⟩ := at_B97 HR0 x11_1 Xa Xa HB
   cases e360
   go_upto_region 6 with (first | ((with_reducible refine gate_dst (N := 4) rfl ?_); refine Xbox 4 #[.string (⟨#[]⟩ : ByteArray), .bool false, .slice none 0 0] 97 ?_; intro gb361 hg w9 hbox hb; have BK361 := Aside0.mk (hbox); have GE361 := Xge hg Xi; replace HB := Aside0.mk (below_step Xi hb); clear hb hbox hg; obtain ⟨hcz10_0, hcz10_1, hcz10_2⟩ := Xc3 BK361; obtain ⟨hfz10_0, hfz10_1, hfz10_2⟩ := Xf3 BK361) | ((with_reducible refine gate_store (t := 97) (p := 4) rfl ?_); refine store_event (t := 97) (p := 4) (v := ?vo_w11) (w1 := (((w9.setCell ⟨gb361, 0, none⟩ (.string ((rd_T97 l0 x11_1).f0))).setCell ⟨gb361, 1, none⟩ (.bool ((rd_T97 l0 x11_1).f1))).setCell ⟨gb361, 2, none⟩ (.slice A360_2 ((rd_T97 l0 x11_1).f2).length c360_2))) ?hg ?ho ?hn ?hr ?_; (case ho => rfl); (case hg => rfl); (case hn => rfl); (case hr => first | (go_simp; done) | (go_simp; rfl)); intro w11 hw; have n0_ : Aside0 (w11.heap[gb361]? = some (.cells #[.string ((rd_T97 l0 x11_1).f0), .bool ((rd_T97 l0 x11_1).f1), .slice A360_2 ((rd_T97 l0 x11_1).f2).length c360_2] 97 (0, 0))) := ⟨(by rw [hw]; exact (by (with_reducible repeat (first | refine blk_drewN ?_ _ | refine blk_drew ?_ | refine blk_alloc ?_ _)); refine blk_put (cs := #[.string ((rd_T97 l0 x11_1).f0), .bool ((rd_T97 l0 x11_1).f1), .slice none 0 0]) ?_ 2 _ rfl; (with_reducible repeat (first | refine blk_drewN ?_ _ | refine blk_drew ?_ | refine blk_alloc ?_ _)); refine blk_put (cs := #[.string ((rd_T97 l0 x11_1).f0), .bool false, .slice none 0 0]) ?_ 1 _ rfl; (with_reducible repeat (first | refine blk_drewN ?_ _ | refine blk_drew ?_ | refine blk_alloc ?_ _)); refine blk_put (cs := #[.string (⟨#[]⟩ : ByteArray), .bool false, .slice none 0 0]) ?_ 0 _ rfl; (with_reducible repeat (first | refine blk_drewN ?_ _ | refine blk_drew ?_ | refine blk_alloc ?_ _)); exact BK361.out))⟩; have n1_ : Aside0 (Below w.heap.size w w11) := ⟨(by rw [hw]; exact Xi)⟩; clear hw; clear BK361; clear HB; have BK361 := n0_; have HB := n1_; clear n0_ n1_))
   have H := HC8.out
   clear HC8
   obtain ⟨t362, A12, H⟩ := Xbi H
   (try dsimp only at H)
   by_cases c13 : t362 = true
   ·subst c13
    (first | rw [if_pos rfl] at H | skip)
    obtain ⟨t363, A14, H⟩ := Xbi H
    (try dsimp only at H)
    have HC15 := Aside0.mk H
    clear H
    obtain ⟨hcz16_0, hcz16_1, hcz16_2⟩ := Xc3 BK361
    obtain ⟨hfz16_0, hfz16_1, hfz16_2⟩ := Xf3 BK361
    go_upto_if 29 with (first | ((with_reducible refine gate_callee (f := 115) rfl ?_); refine Xgo 19 Try.func115 #[.agg #[.string ((rd_T97 l0 x11_1).f0), .bool ((rd_T97 l0 x11_1).f1), .slice A360_2 ((rd_T97 l0 x11_1).f2).length c360_2], .int .i64 (l0.length : Int)] ?_; (with_reducible refine (impl_RuleOK.calls k1 ((rd_T97 l0 x11_1).f0) ((rd_T97 l0 x11_1).f1) _ _ ((rd_T97 l0 x11_1).f2) (l0.length : Int) true _ ?side1 ?side2 A12.out).mono ?_); (case side1 => exact Xc HR360_2); (case side2 => exact HC360_2.out); rintro e w17 ⟨rfl, hb⟩; refine ⟨_, rfl, ?_⟩; replace BK361 := Xbb BK361 hb; replace HB := Aside0.mk (below_step Xi hb); clear hb; obtain ⟨hcz18_0, hcz18_1, hcz18_2⟩ := Xc3 BK361; obtain ⟨hfz18_0, hfz18_1, hfz18_2⟩ := Xf3 BK361) | (go_at_call 116; (with_reducible refine (impl_kindOf.calls k1 _ _ l0 ((rd_T97 l0 x11_1).f0) t363 _ ?side1 ?side2 A14.out).mono ?_); (case side1 => exact Xc HR0); (case side2 => exact HC0.out); rintro e w19 ⟨rfl, hb⟩; replace BK361 := Xbb BK361 hb; replace HB := Aside0.mk (below_step Xi hb); clear hb))
    have H := HC15.out
    clear HC15
    obtain ⟨c20, H⟩ | ⟨c20, H⟩ := Xiu H
    ·have c20b0 : (t363 == (wrap64 (x11_1 + 1))) = true := beq_iff_eq.mpr c20
     have c20b1 : (t363 != (wrap64 (x11_1 + 1))) = false := bne_eq_false_iff_eq.mpr c20
     clear c20
     (first | rw [c20b0] | (simp only [i64_w, i32_w]; rw [c20b0]) | skip)
     have H' := Aside0.mk H
     clear H
     go_wp2
     go_roundg k1
     case measure => have := HK1.out; omega
     case rel => exact ⟨(wrap64 (x11_1 + 1)), Xr, H', Xk1, ⟨Xi⟩⟩
    have c20b0 : (t363 == (wrap64 (x11_1 + 1))) = false := beq_eq_false_iff_ne.mpr c20
    have c20b1 : (t363 != (wrap64 (x11_1 + 1))) = true := bne_iff_ne.mpr c20
    (first | rw [c20b0] | (simp only [i64_w, i32_w]; rw [c20b0]) | skip)
    obtain rfl := Option.some.inj H
    go_wp2
    go_ret
    exact ⟨Xe, Xi⟩
   replace c13 := Bool.eq_false_iff.mpr c13
   subst c13
   (first | rw [if_neg (show ¬ (false = true) by decide)] at H | skip)
   obtain rfl := Option.some.inj H
   obtain ⟨hcz21_0, hcz21_1, hcz21_2⟩ := Xc3 BK361
   obtain ⟨hfz21_0, hfz21_1, hfz21_2⟩ := Xf3 BK361
   go_wp2_with (first | ((with_reducible refine gate_callee (f := 115) rfl ?_); refine Xgo 19 Try.func115 #[.agg #[.string ((rd_T97 l0 x11_1).f0), .bool ((rd_T97 l0 x11_1).f1), .slice A360_2 ((rd_T97 l0 x11_1).f2).length c360_2], .int .i64 (l0.length : Int)] ?_; (with_reducible refine (impl_RuleOK.calls k1 ((rd_T97 l0 x11_1).f0) ((rd_T97 l0 x11_1).f1) _ _ ((rd_T97 l0 x11_1).f2) (l0.length : Int) false _ ?side1 ?side2 A12.out).mono ?_); (case side1 => exact Xc HR360_2); (case side2 => exact HC360_2.out); rintro e w22 ⟨rfl, hb⟩; refine ⟨_, rfl, ?_⟩; replace BK361 := Xbb BK361 hb; replace HB := Aside0.mk (below_step Xi hb); clear hb))
   go_ret
   exact ⟨Xe, Xi⟩
  (first | rw [c5b0] | (simp only [i64_w, i32_w]; rw [c5b0]) | skip)
  obtain rfl := Option.some.inj H
  go_wp2
  go_ret
  exact ⟨Xe, Xi⟩
 replace c4 := Bool.eq_false_iff.mpr c4
 subst c4
 (first | rw [if_neg (show ¬ (false = true) by decide)] at H | skip)
 obtain rfl := Option.some.inj H
 go_wp2
 go_ret
 exact ⟨Xe, Xi⟩
def impl_Doc_find_1.f (a0_0 : Int) (a0_1 : Int) (a0_2 : Int) (a0_3 : ByteArray) (l0_4 : List Int) (a1 : Int) : Option (Int) := some (wrap64 (a0_0 - a1))
theorem impl_Doc_find_1.calls (a0_0 : Int) (a0_1 : Int) (a0_2 : Int) (a0_3 : ByteArray) (A0_4 : Option Addr) (c0_4 : Nat) (l0_4 : List Int) (a1 : Int) (r : Int) (w : World) (hr0_4 : Kd.C (Kd.int .i64) w A0_4 l0_4.length l0_4) (hc0_4 : l0_4.length ≤ c0_4) (h : impl_Doc_find_1.f a0_0 a0_1 a0_2 a0_3 l0_4 a1 = some r) :
  Calls Try.prog 123 #[.agg #[.int .i64 a0_0, .int .i64 a0_1, .int .i64 a0_2, .string a0_3, .slice A0_4 l0_4.length c0_4], .int .i64 a1] w fun e w' => e = .returned (.int .i64 r) ∧ Below w.heap.size w w' := by
 have hu103 := Try.underlying103
 have HR0_4 := Aside0.mk hr0_4
 have HC0_4 := Aside0.mk hc0_4
 clear hr0_4 hc0_4
 have HB := Aside0.mk (Below.refl w.heap.size w)
 have H : (some (wrap64 (a0_0 - a1))) = some r := h
 clear h
 obtain rfl := Option.some.inj H
 go_enter Try.func123, Try.ntmps123
 go_wp2_with (first | ((with_reducible refine gate_dst (N := 2) rfl ?_); refine Xbox 2 #[.int .i64 a0_0, .int .i64 a0_1, .int .i64 a0_2, .string a0_3, .slice A0_4 l0_4.length c0_4] 103 ?_; intro gb365 hg w3 hbox hb; have BK365 := Aside0.mk (hbox); have GE365 := Xge hg Xi; replace HB := Aside0.mk (below_step Xi hb); clear hb hbox hg; obtain ⟨hcz4_0, hcz4_1, hcz4_2, hcz4_3, hcz4_4⟩ := Xc5 BK365))
 go_ret
 exact ⟨Xe, Xi⟩
def slices_BinarySearchFunc_impl_Node_impl_Node_int_at_impl_Doc_find_1.l0 : Nat → List (S103) → Int → Int → Int → Int → Option (Int × Bool)
 | 0, _, _, _, _, _ => none
 | k + 1, x0, x1, x8, x9, x10 => if x9 < x10 then (if 0 ≤ (wrap64 ((IntKind.u64.wrap (wrap64 (x9 + x10))) / 2)) then (if (wrap64 ((IntKind.u64.wrap (wrap64 (x9 + x10))) / 2)) < (x0.length : Int) then ((impl_Doc_find_1.f ((rd_T103 x0 (wrap64 ((IntKind.u64.wrap (wrap64 (x9 + x10))) / 2))).f0) ((rd_T103 x0 (wrap64 ((IntKind.u64.wrap (wrap64 (x9 + x10))) / 2))).f1) ((rd_T103 x0 (wrap64 ((IntKind.u64.wrap (wrap64 (x9 + x10))) / 2))).f2) ((rd_T103 x0 (wrap64 ((IntKind.u64.wrap (wrap64 (x9 + x10))) / 2))).f3) ((rd_T103 x0 (wrap64 ((IntKind.u64.wrap (wrap64 (x9 + x10))) / 2))).f4) x1).bind fun t367 => (if t367 < 0 then (slices_BinarySearchFunc_impl_Node_impl_Node_int_at_impl_Doc_find_1.l0 k x0 x1 x8 (wrap64 ((wrap64 ((IntKind.u64.wrap (wrap64 (x9 + x10))) / 2)) + 1)) x10) else (slices_BinarySearchFunc_impl_Node_impl_Node_int_at_impl_Doc_find_1.l0 k x0 x1 x8 x9 (wrap64 ((IntKind.u64.wrap (wrap64 (x9 + x10))) / 2))))) else (none)) else (none)) else (if x9 < x8 then (if 0 ≤ x9 then (if x9 < (x0.length : Int) then ((impl_Doc_find_1.f ((rd_T103 x0 x9).f0) ((rd_T103 x0 x9).f1) ((rd_T103 x0 x9).f2) ((rd_T103 x0 x9).f3) ((rd_T103 x0 x9).f4) x1).bind fun t369 => (some (x9, (t369 == 0)))) else (none)) else (none)) else (some (x9, false)))
def slices_BinarySearchFunc_impl_Node_impl_Node_int_at_impl_Doc_find_1.f (k : Nat) (l0 : List (S103)) (a1 : Int)  : Option (Int × Bool) := slices_BinarySearchFunc_impl_Node_impl_Node_int_at_impl_Doc_find_1.l0 k l0 a1 (l0.length : Int) 0 (l0.length : Int)
theorem slices_BinarySearchFunc_impl_Node_impl_Node_int_at_impl_Doc_find_1.calls (k : Nat) (A0 : Option Addr) (c0 : Nat) (l0 : List (S103)) (a1 : Int)  (r1 : Int) (r2 : Bool) (w : World) (hr0 : Kd.C k103 w A0 l0.length l0) (hc0 : l0.length ≤ c0) (h : slices_BinarySearchFunc_impl_Node_impl_Node_int_at_impl_Doc_find_1.f k l0 a1 = some (r1, r2)) :
  Calls Try.prog 122 #[.slice A0 l0.length c0, .int .i64 a1, .func (.func 123) #[] #[]] w fun e w' => e = .returned (.tuple #[.int .i64 r1, .bool r2]) ∧ Below w.heap.size w w' := by
 have hu103 := Try.underlying103
 have HR0 := Aside0.mk hr0
 have HC0 := Aside0.mk hc0
 clear hr0 hc0
 have HB := Aside0.mk (Below.refl w.heap.size w)
 have H : (slices_BinarySearchFunc_impl_Node_impl_Node_int_at_impl_Doc_find_1.l0 k l0 a1 (l0.length : Int) 0 (l0.length : Int)) = some (r1, r2) := h
 clear h
 have H' := Aside0.mk H
 clear H
 go_enter Try.func122, Try.ntmps122
 go_wp2
 go_loopg [9, 10] k (fun kq v9 v10 w' => ∃ (x9_1 : Int) (x10_1 : Int), v9 = .int .i64 x9_1 ∧ v10 = .int .i64 x10_1 ∧ Aside0 (slices_BinarySearchFunc_impl_Node_impl_Node_int_at_impl_Doc_find_1.l0 kq l0 a1 (l0.length : Int) x9_1 x10_1 = some (r1, r2)) ∧ Aside0 (kq ≤ k) ∧ Aside0 (Below w.heap.size w w'))
 case atStart => exact ⟨(0), ((l0.length : Int)), Xr, Xr, H', Xkr, ⟨Xi⟩⟩
 clear H'
 obtain ⟨x9_1, x10_1, rfl, rfl, HA, HK1, HB⟩ := hrel
 cases gk with | zero => cases HA.out | succ k1 => ?_
 have H := HA.out
 clear HA
 simp only [slices_BinarySearchFunc_impl_Node_impl_Node_int_at_impl_Doc_find_1.l0] at H
 obtain ⟨c4b0, H⟩ | ⟨c4b0, H⟩ := Xit H
 ·obtain ⟨ji5, hji5⟩ : ∃ j_ : Int, (wrap64 ((IntKind.u64.wrap (wrap64 (x9_1 + x10_1))) / 2)) = j_ := ⟨_, rfl⟩
  replace H : (if 0 ≤ (ji5) then (if (ji5) < (l0.length : Int) then ((impl_Doc_find_1.f ((rd_T103 l0 (ji5)).f0) ((rd_T103 l0 (ji5)).f1) ((rd_T103 l0 (ji5)).f2) ((rd_T103 l0 (ji5)).f3) ((rd_T103 l0 (ji5)).f4) a1).bind fun t367 => (if t367 < 0 then (slices_BinarySearchFunc_impl_Node_impl_Node_int_at_impl_Doc_find_1.l0 k1 l0 a1 (l0.length : Int) (wrap64 ((ji5) + 1)) x10_1) else (slices_BinarySearchFunc_impl_Node_impl_Node_int_at_impl_Doc_find_1.l0 k1 l0 a1 (l0.length : Int) x9_1 ji5))) else (none)) else (none)) = some (r1, r2) := by first | (rw [hji5] at H; exact H) | (simp only [hji5] at H ⊢; exact H)
  have hji5w : (IntKind.i64.wrap ((IntKind.u64.wrap (wrap64 (x9_1 + x10_1))) / 2)) = ji5 := (i64_w _).trans hji5
  obtain ⟨c6b0, H⟩ := Xid H
  obtain ⟨c7b0, H⟩ := Xid H
  obtain ⟨t367, A8, H⟩ := Xbi H
  (try dsimp only at H)
  have HC9 := Aside0.mk H
  clear H
  obtain ⟨ad366, A366_4, c366_4, e366, p366, q366, hx366_0, hx366_1, hx366_2, hx366_3, hx366_4, HC366_4, HR366_4⟩ := at_B103 HR0 (ji5) Xa Xa HB
  cases e366
  go_upto_if 31 with (first | (go_at_call 123; (with_reducible refine (impl_Doc_find_1.calls ((rd_T103 l0 (ji5)).f0) ((rd_T103 l0 (ji5)).f1) ((rd_T103 l0 (ji5)).f2) ((rd_T103 l0 (ji5)).f3) _ _ ((rd_T103 l0 (ji5)).f4) a1 t367 _ ?side1 ?side2 A8.out).mono ?_); (case side1 => exact Xc HR366_4); (case side2 => exact HC366_4.out); rintro e w10 ⟨rfl, hb⟩; replace HB := Aside0.mk (below_step Xi hb); clear hb))
  have H := HC9.out
  clear HC9
  obtain ⟨c11b0, H⟩ | ⟨c11b0, H⟩ := Xit H
  ·(first | rw [c11b0] | (simp only [i64_w, i32_w]; rw [c11b0]) | skip)
   have H' := Aside0.mk H
   clear H
   go_wp2
   go_roundg k1
   case measure => have := HK1.out; omega
   case rel => exact ⟨(wrap64 ((ji5) + 1)), (x10_1), (by first | rfl | (simp; done) | (simp only [← hji5] <;> (first | rfl | simp)) | (simp [*]; done)), Xr, H', Xk1, ⟨Xi⟩⟩
  (first | rw [c11b0] | (simp only [i64_w, i32_w]; rw [c11b0]) | skip)
  have H' := Aside0.mk H
  clear H
  go_wp2
  go_roundg k1
  case measure => have := HK1.out; omega
  case rel => exact ⟨(x9_1), (ji5), Xr, (by first | rfl | (simp; done) | (simp only [← hji5] <;> (first | rfl | simp)) | (simp [*]; done)), H', Xk1, ⟨Xi⟩⟩
 obtain ⟨c12b0, H⟩ | ⟨c12b0, H⟩ := Xit H
 ·obtain ⟨c13b0, H⟩ := Xid H
  obtain ⟨c14b0, H⟩ := Xid H
  obtain ⟨t369, A15, H⟩ := Xbi H
  (try dsimp only at H)
  simp only [Option.some.injEq, Prod.mk.injEq] at H
  obtain ⟨rfl, rfl⟩ := H
  obtain ⟨ad368, A368_4, c368_4, e368, p368, q368, hx368_0, hx368_1, hx368_2, hx368_3, hx368_4, HC368_4, HR368_4⟩ := at_B103 HR0 x9_1 Xa Xa HB
  cases e368
  go_wp2_with (first | (go_at_call 123; (with_reducible refine (impl_Doc_find_1.calls ((rd_T103 l0 x9_1).f0) ((rd_T103 l0 x9_1).f1) ((rd_T103 l0 x9_1).f2) ((rd_T103 l0 x9_1).f3) _ _ ((rd_T103 l0 x9_1).f4) a1 t369 _ ?side1 ?side2 A15.out).mono ?_); (case side1 => exact Xc HR368_4); (case side2 => exact HC368_4.out); rintro e w16 ⟨rfl, hb⟩; replace HB := Aside0.mk (below_step Xi hb); clear hb))
  go_ret2
  exact ⟨Xe, Xi⟩
 simp only [Option.some.injEq, Prod.mk.injEq] at H
 obtain ⟨rfl, rfl⟩ := H
 go_wp2
 go_ret2
 exact ⟨Xe, Xi⟩
end Go.Proofs.Ythkbgbkglgmpoaa.XA
