/- Contracts of the program's functions: each Go function that is named below comes to what its Lean function says. Written by xprint.py (a program of this session's, over the kit's print). Conditions: each contract's own premises. -/
import Derived.Test.YtocelbmpnjnnbaaYPutHold0
import Derived.Test.YtocelbmpnjnnbaaYPutHold14
import Derived.Test.YtocelbmpnjnnbaaYPutHold15
import Derived.Test.YtocelbmpnjnnbaaYPutHoldCloneHold
import Derived.Test.YtocelbmpnjnnbaaYPutHoldInsertHold
namespace Go.Proofs.Ytocelbmpnjnnbaa.XA
open Go.RowKit Go.Proofs.YtocelbmpnjnnbaaW.PrintWords Go.Proofs.YtocelbmpnjnnbaaW.PrintLast Go.Proofs.YtocelbmpnjnnbaaW.PrintMore XW
attribute [local go_sem] max2_int min2_int max_two min_two max_three min_three max_four min_four   -- for this text's walks alone
set_option linter.unusedVariables false
set_option linter.unusedSimpArgs false

/-! ### impl_put: function 57 -/
def impl_put.f (k : Nat) (l0 : List (S38)) (a1_0 : Int) (a1_1 : Int) (a1_2 : Int) : Option ((List (S38))) := (slices_BinarySearchFunc_impl_Hold_impl_Hold_impl_Hold_at_impl_compareHolds.f k l0 a1_0 a1_1 a1_2).bind fun bt354 => ((slices_Clone_Hold.f l0).bind fun t356 => (if bt354.2 = true then (if 0 ≤ bt354.1 then (if bt354.1 < (t356.length : Int) then ((impl_joined.f ((rd_T38 t356 bt354.1).f2) a1_2).bind fun t360 => (some (t356.set (bt354.1 : Int).toNat (⟨(rd_T38 t356 bt354.1).f0, (rd_T38 t356 bt354.1).f1, t360⟩ : S38)))) else (none)) else (none)) else ((slices_Insert_Hold.f t356 bt354.1 (([(⟨a1_0, a1_1, a1_2⟩ : S38)] : List (S38)))).bind fun t365 => (some t365))))
def impl_put.T4 : Bool × List (List Nat × List Nat) := (true, [([], []), ([], []), ([], []), ([], []), ([2, 3], [2, 3]), ([4], [4]), ([5], [5]), ([], []), ([7], [7]), ([6, 8], [6, 8]), ([0, 1, 0, 1, 2, 3, 4, 5, 6, 7, 8, 9], [0, 1]), ([10, 0, 1, 2, 3, 4, 5, 6, 7, 8, 9], [10]), ([11, 9, 9, 0, 1, 2, 3, 4, 5, 6, 7, 8, 9], [9, 11])])
def impl_put.B4 : List Nat := [0, 0, 0, 0, 12, 28, 60, 0, 128, 508, 1023, 2047, 4095]
theorem impl_put.tab4 : rtab .any (opsOf Try.f57 4) = impl_put.T4 := by kernel_rfl
theorem impl_put.bits4 : waitsOk impl_put.T4.2 impl_put.B4 = true := by kernel_rfl
set_option maxHeartbeats 8000000 in
set_option maxRecDepth 100000 in
theorem impl_put.calls (k : Nat) (A0 : Option Addr) (c0 : Nat) (l0 : List (S38)) (a1_0 : Int) (a1_1 : Int) (a1_2 : Int) (r : List (S38)) (w : World) (hr0 : Kd.C k38 w A0 l0.length l0) (hc0 : l0.length ≤ c0) (h : impl_put.f k l0 a1_0 a1_1 a1_2 = some r) :
  Calls Try.prog 57 #[.slice A0 l0.length c0, .agg #[.int .i64 a1_0, .int .i64 a1_1, .int .i64 a1_2]] w fun e w' => ∃ v0_ : Value, e = .returned (v0_) ∧ Kd.R k38 38 w' w.heap.size (fun _ => True) v0_ r ∧ Below w.heap.size w w' := by
 have hu38 := Try.underlying38
 have HR0 := Aside0.mk hr0
 have HC0 := Aside0.mk hc0
 clear hr0 hc0
 have HB := Aside0.mk (Below.refl w.heap.size w)
 have H : ((slices_BinarySearchFunc_impl_Hold_impl_Hold_impl_Hold_at_impl_compareHolds.f k l0 a1_0 a1_1 a1_2).bind fun bt354 => ((slices_Clone_Hold.f l0).bind fun t356 => (if bt354.2 = true then (if 0 ≤ bt354.1 then (if bt354.1 < (t356.length : Int) then ((impl_joined.f ((rd_T38 t356 bt354.1).f2) a1_2).bind fun t360 => (some (t356.set (bt354.1 : Int).toNat (⟨(rd_T38 t356 bt354.1).f0, (rd_T38 t356 bt354.1).f1, t360⟩ : S38)))) else (none)) else (none)) else ((slices_Insert_Hold.f t356 bt354.1 (([(⟨a1_0, a1_1, a1_2⟩ : S38)] : List (S38)))).bind fun t365 => (some t365))))) = some r := h
 clear h
 replace H := Option.bind_eq_some_iff.mp H
 obtain ⟨⟨t354, t355⟩, A30, H⟩ := H
 (try dsimp only at H)
 have A3 := Aside0.mk A30
 clear A30
 obtain ⟨t356, A4, H⟩ := Xbi H
 (try dsimp only at H)
 have HC5 := Aside0.mk H
 clear H
 go_enter Try.func57, Try.ntmps57
 go_upto_if 16 with (first | ((with_reducible refine gate_dst (N := 3) rfl ?_); refine Xbox 3 #[.int .i64 a1_0, .int .i64 a1_1, .int .i64 a1_2] 38 ?_; intro gb353 hg w6 hbox hb; have BK353 := Aside0.mk (hbox); have GE353 := Xge hg Xi; replace HB := Aside0.mk (below_step Xi hb); clear hb hbox hg; obtain ⟨hcz7_0, hcz7_1, hcz7_2⟩ := Xc3 BK353; obtain ⟨hfz7_0, hfz7_1, hfz7_2⟩ := Xf3 BK353) | ((with_reducible refine gate_callee (f := 119) rfl ?_); refine Xgo 11 Try.func119 #[.slice A0 l0.length c0, .agg #[.int .i64 a1_0, .int .i64 a1_1, .int .i64 a1_2], .func (.func 120) #[] #[]] ?_; (with_reducible refine (slices_BinarySearchFunc_impl_Hold_impl_Hold_impl_Hold_at_impl_compareHolds.calls k _ _ l0 a1_0 a1_1 a1_2  t354 t355 _ ?side1 ?side2 A3.out).mono ?_); (case side1 => exact Xc HR0); (case side2 => exact HC0.out); rintro e w8 ⟨rfl, hb⟩; refine ⟨_, rfl, ?_⟩; replace BK353 := Xbb BK353 hb; replace HB := Aside0.mk (below_step Xi hb); clear hb) | ((with_reducible refine gate_callee (f := 121) rfl ?_); refine Xgo 15 Try.func121 #[.slice A0 l0.length c0] ?_; (with_reducible refine (slices_Clone_Hold.calls _ _ l0 t356 _ ?side1 ?side2 A4.out).mono ?_); (case side1 => exact Xc HR0); (case side2 => exact HC0.out); rintro e w9 ⟨v357, rfl, ho0, hb⟩; refine ⟨_, rfl, ?_⟩; have HO358 := Aside0.mk (Kd.R_lower (Kd.R_newB ho0 (g := gb353) (o := .cells #[.int .i64 a1_0, .int .i64 a1_1, .int .i64 a1_2] 38 (0, 0)) BK353.out) (below_size Xi)); replace BK353 := Xbb BK353 hb; replace HB := Aside0.mk (below_step Xi hb); clear hb; (try clear ho0)))
 have H := HC5.out
 clear HC5
 by_cases c10 : t355 = true
 ·subst c10
  (first | rw [if_pos rfl] at H | skip)
  obtain ⟨c11b0, H⟩ := Xid H
  (first | rw [c11b0] | (simp only [i64_w, i32_w]; rw [c11b0]) | skip)
  obtain ⟨c12b0, H⟩ := Xid H
  obtain ⟨t360, A13, H⟩ := Xbi H
  (try dsimp only at H)
  obtain ⟨y361, hy361⟩ : ∃ y_ : List (S38), y_ = (t356.set (t354 : Int).toNat (⟨(rd_T38 t356 t354).f0, (rd_T38 t356 t354).f1, t360⟩ : S38)) := ⟨_, rfl⟩
  replace H : (some y361) = some r := by first | (rw [hy361]; with_reducible exact H) | (have H2_ := (Option.bind_some _ _).symm.trans H; rw [hy361]; with_reducible exact H2_) | (have H2_ := (Option.bind_some _ _).symm.trans H; with_reducible exact H2_) | with_reducible exact H | (rw [hy361]; exact H) | exact H
  have Ny361 := Aside0.mk hy361
  clear hy361
  obtain rfl := Option.some.inj H
  try go_wp2_with (fail)
  replace HO358 := Aside0.mk (Kd.R_drew HO358.out)
  replace BK353 := Aside0.mk (blk_drew BK353.out)
  replace HB := Aside0.mk (below_drew1 HB.out)
  obtain ⟨Ao16, co16, eo16⟩ := Kd.R_slice HO358.out
  (first | subst eo16 | (injection eo16 with f1_ f2_ f3_; have f4_ := f1_.symm; have f5_ := f3_.symm; clear f1_ f2_ f3_; subst f4_; subst f5_))
  have p359 : 0 ≤ (t354 : Int) := of_decide_eq_true Xa
  have q359 : t354 < (t356.length : Int) := of_decide_eq_true Xa
  obtain ⟨ad359, e359, hx359_0, hx359_1, hx359_2⟩ := at_T38 (Kd.R_reads' HO358.out).2.2 t354 p359 q359
  cases e359
  replace p359 := eq_true p359
  replace q359 := eq_true q359
  refine start_ (n := 13) (S := fun w' => w'.cell? ⟨gb353, 0, none⟩ = some (.int .i64 a1_0) ∧ w'.cell? ⟨gb353, 1, none⟩ = some (.int .i64 a1_1) ∧ w'.cell? ⟨gb353, 2, none⟩ = some (.int .i64 a1_2) ∧ w'.cell? (ad359.add ((t354).toNat * 3)) = some (.int .i64 ((rd_T38 t356 t354).f0)) ∧ w'.cell? ⟨(ad359.add ((t354).toNat * 3)).block, (ad359.add ((t354).toNat * 3)).off + 1, none⟩ = some (.int .i64 ((rd_T38 t356 t354).f1)) ∧ w'.cell? ⟨(ad359.add ((t354).toNat * 3)).block, (ad359.add ((t354).toNat * 3)).off + 2, none⟩ = some (.int .i64 ((rd_T38 t356 t354).f2))) (ds := [12]) #[false, false, false, false, false, false, false, false, false, false, false, false, false] (by kernel_rfl) rfl rfl ⟨(blk_cell BK353.out 0).trans rfl, (blk_cell BK353.out 1).trans rfl, (blk_cell BK353.out 2).trans rfl, hx359_0, hx359_1, hx359_2⟩ (fun hHeld => ?_); refine with_tabW impl_put.tab4 impl_put.bits4 (fun HT_ HW_ => ?_)
  generalize w9.drew = w15 at HO358 BK353 HB hx359_0 hx359_1 hx359_2 hHeld ⊢
  refine Xpu 0 17 (XW.bs 13 1) HT_.out ?_
  refine Xpu 1 18 (XW.bs 13 3) HT_.out ?_
  refine Xpu 2 19 (XW.bs 13 7) HT_.out ?_
  refine Xpu 3 20 (XW.bs 13 15) HT_.out ?_
  refine Xpu 4 21 (XW.bs 13 31) HT_.out ?_
  refine Xpu 5 22 (XW.bs 13 63) HT_.out ?_
  refine Xpu 7 24 (XW.bs 13 191) HT_.out ?_
  refine Xta 6 23 (XW.bs 13 255) HT_.out HW_.out hHeld ?_
  refine Xta 8 25 (XW.bs 13 511) HT_.out HW_.out hHeld ?_
  refine one_ (i := 9) (N := some 26) (XW.bs 13 1023) rfl rfl (one_of HT_.out (by kernel_rfl)) (by decide) (fun K hK => ?_)
  refine goes_ Try.func122 (by kernel_rfl) rfl #[.int .i64 ((rd_T38 t356 t354).f2), .int .i64 a1_2] (by rfl) rfl rfl (by (try simp only [List.map_toArray, List.map_cons, List.map_nil]); first | done | rfl | (simp only [List.length_drop, List.length_take]; rfl)) ?_
  with_reducible refine (impl_joined.calls ((rd_T38 t356 t354).f2) a1_2 t360 _ A13.out).mono ?_
  rintro e w17 ⟨rfl, hb⟩
  have HS3_ := (hb.cell (World.block_lt_of_cell? _ _ (hHeld.2.2.2.1))).trans (hHeld.2.2.2.1)
  have HS4_ := (hb.cell (World.block_lt_of_cell? _ _ (hHeld.2.2.2.2.1))).trans (hHeld.2.2.2.2.1)
  have HS5_ := (hb.cell (World.block_lt_of_cell? _ _ (hHeld.2.2.2.2.2))).trans (hHeld.2.2.2.2.2)
  refine ⟨_, rfl, ?_⟩
  replace HO358 := Aside0.mk (Kd.R_below (Xq HO358) hb)
  replace BK353 := Xbb BK353 hb
  replace HB := Aside0.mk (below_step Xi hb)
  (try clear hb)
  (try clear hb2)
  (try clear hk)
  (try clear hi)
  have p14 : 0 ≤ (t354 : Int) := of_decide_eq_true Xa
  have q14 : (t354 : Int) < ((t356.length : Int) : Int) := of_decide_eq_true Xa
  obtain ⟨go14, co14, eo14, gb14, gl14, cl14, HG14⟩ := Kd.R_form HO358.out (by omega)
  (first | cases eo14 | (injection eo14 with ea_ en_ ec_; (first | subst ea_ | (injection ea_ with ea_; subst ea_)); subst ec_; clear en_))
  have GB14 := Aside0.mk gb14
  have GG14 := Aside0.mk HG14
  clear gb14 gl14 HG14
  (first | simp only [add_plain] at hx359_0 | skip)
  (first | simp only [add_plain] at hx359_1 | skip)
  (first | simp only [add_plain] at hx359_2 | skip)
  obtain ⟨ce14, hcl14, hM14, hcc14, hfr14⟩ := Kd.R_elem HO358.out z38 (t354 : Int) p14 q14
  obtain rfl := k38_openM hM14
  have hx14_0 : World.cell? _ ⟨go14, (t354 : Int).toNat * 3, none⟩ = some (.int .i64 ((rd_T38 t356 t354).f0)) := hcc14 0 _ rfl
  have hx14_1 : World.cell? _ ⟨go14, (t354 : Int).toNat * 3 + 1, none⟩ = some (.int .i64 ((rd_T38 t356 t354).f1)) := hcc14 1 _ rfl
  have hx14_2 : World.cell? _ ⟨go14, (t354 : Int).toNat * 3 + 2, none⟩ = some (.int .i64 ((rd_T38 t356 t354).f2)) := hcc14 2 _ rfl
  have hf14_0 : World.frozen? _ ⟨go14, (t354 : Int).toNat * 3, none⟩ = false := hfr14 0
  have hf14_1 : World.frozen? _ ⟨go14, (t354 : Int).toNat * 3 + 1, none⟩ = false := hfr14 1
  have hf14_2 : World.frozen? _ ⟨go14, (t354 : Int).toNat * 3 + 2, none⟩ = false := hfr14 2
  clear hcl14 hcc14 hfr14; (try clear hM14)
  replace p14 := eq_true p14
  replace q14 := eq_true q14
  obtain ⟨ce18, hcl18, hM18, hcc18, hfr18⟩ := Kd.R_elem HO358.out z38 (t354 : Int) (of_decide_eq_true Xa) (by have h_ : (t354 : Int) < ((t356.length : Int) : Int) := of_decide_eq_true Xa; first | exact h_ | (have e_ := (Kd.R_reads' HO358.out).1; omega) | simpa using h_)
  obtain rfl := k38_openM hM18
  have HP18 := (Kd.R_seg HO358.out (t354 : Int) (of_decide_eq_true Xa) (by have h_ : (t354 : Int) < ((t356.length : Int) : Int) := of_decide_eq_true Xa; first | exact h_ | (have e_ := (Kd.R_reads' HO358.out).1; omega) | simpa using h_) (seg := [.int .i64 t360]) (j := 2) hcl18 hcc18 (show 3 ≤ 3 from by decide) (x' := (⟨(rd_T38 t356 t354).f0, (rd_T38 t356 t354).f1, t360⟩ : S38)) (k38_mkM _ _ _ (⟨(rd_T38 t356 t354).f0, (rd_T38 t356 t354).f1, t360⟩ : S38) ) (fun _ hk => hk)).1
  rw [← Ny361.out] at HP18
  have HQ18 := Aside0.mk HP18
  clear hcl18 hcc18 hfr18 HP18; (try clear hM18)
  refine hK.out _ _ ⟨(blk_cell BK353.out 0).trans rfl, (blk_cell BK353.out 1).trans rfl, (blk_cell BK353.out 2).trans rfl, HS3_, HS4_, HS5_⟩ (fun hHeld => ?_)
  clear hK K
  refine Xno ?_
  refine Xpu 10 27 (XW.bs 13 2047) HT_.out ?_
  refine Xpu 11 28 (XW.bs 13 4095) HT_.out ?_
  refine last_ (i := 12) (N := none) #[true, true, true, true, true, true, true, true, true, true, true, true, true] rfl rfl (one_of HT_.out (by kernel_rfl)) (by decide) (fun K hK => ?_)
  refine skip_ (w1 := ?_) (by rfl) rfl ?_ ?_
  rotate_left
  ·go_simp
   rfl
  refine hK.out _ _ ?_
  clear hK K
  refine done_ (done_of HT_.out (by kernel_rfl)) ?_
  try go_wp2_with (fail)
  go_ret
  exact ⟨_, Xe, by (with_reducible repeat (first | apply Kd.R_alloc | apply Kd.R_drewN | apply Kd.R_drew)); exact Kd.R_mono HQ18.out (fun _ hk => trivial), by repeat first | (with_reducible first | exact HB.out | apply XW.bN | apply XW.bD | refine below_set ?_ GB14.out | refine below_set ?_ GE353.out) | exact HB.out⟩
 ·replace c10 := Bool.eq_false_iff.mpr c10
  subst c10
  (first | rw [if_neg (show ¬ (false = true) by decide)] at H | skip)
  obtain ⟨y362, hy362⟩ : ∃ y_ : List (S38), y_ = (([(⟨a1_0, a1_1, a1_2⟩ : S38)] : List (S38))) := ⟨_, rfl⟩
  replace H : ((slices_Insert_Hold.f t356 t354 y362).bind fun t365 => (some t365)) = some r := by first | (rw [hy362]; with_reducible exact H) | (have H2_ := (Option.bind_some _ _).symm.trans H; rw [hy362]; with_reducible exact H2_) | (have H2_ := (Option.bind_some _ _).symm.trans H; with_reducible exact H2_) | with_reducible exact H | (rw [hy362]; exact H) | exact H
  have Ny362 := Aside0.mk hy362
  clear hy362
  obtain ⟨t365, A19, H⟩ := Xbi H
  (try dsimp only at H)
  obtain rfl := Option.some.inj H
  obtain ⟨hcz20_0, hcz20_1, hcz20_2⟩ := Xc3 BK353
  obtain ⟨hfz20_0, hfz20_1, hfz20_2⟩ := Xf3 BK353
  go_wp2_with (first | ((with_reducible refine gate_dst (N := 33) rfl ?_); refine Kd.R_lit k38 _ 38 ?hg (N := 33) ?hd (xs := ([(⟨a1_0, a1_1, a1_2⟩ : S38)] : List (S38))) (inner := [.int .i64 a1_0, .int .i64 a1_1, .int .i64 a1_2]) (ok := fun _ => True) (okp := fun _ => True) ?hr ?hp (fun _ hk => hk) trivial (Below.refl _ _) (Nat.le_refl _) (by simp) ?_; (case hd => rfl); (case hg => rfl); (case hr => first | (go_simp; done) | (go_simp; rfl)); (case hp => exact (Reps.c3 (show Kd.M k38 _ _ _ (⟨a1_0, a1_1, a1_2⟩ : S38) [.int .i64 a1_0, .int .i64 a1_1, .int .i64 a1_2] from (k38_mkM _ _ _ (⟨a1_0, a1_1, a1_2⟩ : S38) )) (Reps.none _ _))); intro v363 w21 ho22 hb hg_ hnew_; clear hg_ hnew_; (first | rw [← Ny362.out] at ho22 | (simp only [Int.reduceToNat] at ho22; rw [← Ny362.out] at ho22)); have HO364 := Aside0.mk (Kd.R_lower (Kd.R_newB (Kd.R_new' ho22 (Kd.R_lt (Xq HO358))) (g := gb353) (o := .cells #[.int .i64 a1_0, .int .i64 a1_1, .int .i64 a1_2] 38 (0, 0)) BK353.out) (below_size Xi)); replace HO358 := Aside0.mk (Kd.R_elder' (Xq HO358) (Kd.R_base ho22) hb); replace BK353 := Xbb BK353 hb; replace HB := Aside0.mk (below_step Xi hb); clear hb ho22; obtain ⟨Ao23, co23, eo23⟩ := Kd.R_slice HO358.out; subst eo23; obtain ⟨Ao24, co24, eo24⟩ := Kd.R_slice HO364.out; subst eo24) | ((with_reducible refine gate_callee (f := 123) rfl ?_); refine Xgo 34 Try.func123 #[.slice Ao23 t356.length co23, .int .i64 t354, .slice Ao24 y362.length co24] ?_; (with_reducible refine (slices_Insert_Hold.calls (fun k_ => some k_ = (.slice Ao23 t356.length co23 : Value).ownBlock) (.slice Ao23 t356.length co23) t356 t354 (fun k_ => some k_ = (.slice Ao24 y362.length co24 : Value).ownBlock) (.slice Ao24 y362.length co24) y362 t365 w _ ?side1 ?side2 ?side3 ?side4 ?side5 A19.out).mono ?_); (case side1 => exact Xi); (case side2 => exact Kd.R_tight rfl HO358.out); (case side3 => exact fun k_ e_ => (HO358.out.1 k_ e_.symm).2); (case side4 => exact Kd.R_tight rfl HO364.out); (case side5 => exact fun k_ e_ => (HO364.out.1 k_ e_.symm).1.2); rintro e w25 ⟨v366, rfl, ho0, hb, hkp⟩; refine ⟨_, rfl, ?_⟩; have HO367 := Aside0.mk (Kd.R_mono (ok' := fun k_ => k_ ≠ gb353) ho0 (fun k_ hk_ => Or.elim hk_ (fun hs_ => Or.elim hs_ (fun hs_ => fun e_ => (Kd.R_away HO358.out (fun _ hk => hk.1.2)) (by rw [← e_]; exact hs_)) (fun hs_ => fun e_ => (Kd.R_away HO364.out (fun _ hk => hk.2)) (by rw [← e_]; exact hs_))) (fun hn_ => (Kd.freshB (g := gb353) (o := .cells #[.int .i64 a1_0, .int .i64 a1_1, .int .i64 a1_2] 38 (0, 0)) BK353.out k_ hn_)))); replace BK353 := Aside0.mk (blk_kept BK353.out hkp (fun hs_ => Or.elim hs_ (fun e_ => (fun e_ => (Kd.R_away HO358.out (fun _ hk => hk.1.2)) e_) e_) (fun e_ => (fun e_ => (Kd.R_away HO364.out (fun _ hk => hk.2)) e_) e_))); replace HB := Aside0.mk (hb); clear HO358; clear HO364; (try clear hb); (try clear hkp); (try clear ho0)))
  go_ret
  exact ⟨_, Xe, by (with_reducible repeat (first | apply Kd.R_alloc | apply Kd.R_drewN | apply Kd.R_drew)); exact Kd.R_mono HO367.out (fun _ hk => trivial), Xi⟩

/-! ### impl_PutHold: function 14 -/
def impl_PutHold.f (k : Nat) (a0_0 : Int) (a0_1 : Int) (l0_2 : List (S64)) (l1 : List (S38)) (a2_0 : Int) (a2_1 : Int) (a2_2 : Int) : Option ((List (S38)) × Int) := (impl_holdCode.f k a0_0 a0_1 l0_2 l1 a2_0 a2_1 a2_2).bind fun t370 => (if t370 = 0 then ((impl_put.f k l1 a2_0 a2_1 a2_2).bind fun t371 => (if (t371.length : Int) > 30 then (some (([] : List (S38)), 7)) else (some (t371, 0)))) else (some (([] : List (S38)), t370)))
set_option maxHeartbeats 8000000 in
set_option maxRecDepth 100000 in
theorem impl_PutHold.calls (k : Nat) (a0_0 : Int) (a0_1 : Int) (A0_2 : Option Addr) (c0_2 : Nat) (l0_2 : List (S64)) (A1 : Option Addr) (c1 : Nat) (l1 : List (S38)) (a2_0 : Int) (a2_1 : Int) (a2_2 : Int) (r1 : List (S38)) (r2 : Int) (w : World) (hr0_2 : Kd.C k64 w A0_2 l0_2.length l0_2) (hc0_2 : l0_2.length ≤ c0_2) (hr1 : Kd.C k38 w A1 l1.length l1) (hc1 : l1.length ≤ c1) (h : impl_PutHold.f k a0_0 a0_1 l0_2 l1 a2_0 a2_1 a2_2 = some (r1, r2)) :
  Calls Try.prog 14 #[.agg #[.int .i64 a0_0, .int .i64 a0_1, .slice A0_2 l0_2.length c0_2], .slice A1 l1.length c1, .agg #[.int .i64 a2_0, .int .i64 a2_1, .int .i64 a2_2]] w fun e w' => ∃ v0_ : Value, e = .returned (.tuple #[v0_, .int .i64 r2]) ∧ Kd.R k38 38 w' w.heap.size (fun _ => True) v0_ r1 ∧ Below w.heap.size w w' := by
 have hu35 := Try.underlying35
 have hu38 := Try.underlying38
 have HR0_2 := Aside0.mk hr0_2
 have HC0_2 := Aside0.mk hc0_2
 clear hr0_2 hc0_2
 have HR1 := Aside0.mk hr1
 have HC1 := Aside0.mk hc1
 clear hr1 hc1
 have HB := Aside0.mk (Below.refl w.heap.size w)
 have H : ((impl_holdCode.f k a0_0 a0_1 l0_2 l1 a2_0 a2_1 a2_2).bind fun t370 => (if t370 = 0 then ((impl_put.f k l1 a2_0 a2_1 a2_2).bind fun t371 => (if (t371.length : Int) > 30 then (some (([] : List (S38)), 7)) else (some (t371, 0)))) else (some (([] : List (S38)), t370)))) = some (r1, r2) := h
 clear h
 obtain ⟨t370, A4, H⟩ := Xbi H
 (try dsimp only at H)
 have HC5 := Aside0.mk H
 clear H
 go_enter Try.func14, Try.ntmps14
 go_upto_if 15 with (first | ((with_reducible refine gate_dst (N := 3) rfl ?_); refine Xbox 3 #[.int .i64 a0_0, .int .i64 a0_1, .slice A0_2 l0_2.length c0_2] 35 ?_; intro gb368 hg w6 hbox hb; have BK368 := Aside0.mk (hbox); have GE368 := Xge hg Xi; replace HB := Aside0.mk (below_step Xi hb); clear hb hbox hg) | ((with_reducible refine gate_dst (N := 5) rfl ?_); refine Xbox 5 #[.int .i64 a2_0, .int .i64 a2_1, .int .i64 a2_2] 38 ?_; intro gb369 hg w7 hbox hb; have BK369 := Aside0.mk (hbox); have GE369 := Xge hg Xi; replace HB := Aside0.mk (below_step Xi hb); have NB368_369 := Xnb hg BK368; have NB369_368 := Xns NB368_369; replace BK368 := Xbb BK368 hb; clear hb hbox hg; have hnb8 := NB368_369.out; have hnc8 := NB369_368.out; obtain ⟨hcz9_0, hcz9_1, hcz9_2⟩ := Xc3 BK368; obtain ⟨hcz10_0, hcz10_1, hcz10_2⟩ := Xc3 BK369) | ((with_reducible refine gate_callee (f := 56) rfl ?_); refine Xgo 13 Try.func56 #[.agg #[.int .i64 a0_0, .int .i64 a0_1, .slice A0_2 l0_2.length c0_2], .slice A1 l1.length c1, .agg #[.int .i64 a2_0, .int .i64 a2_1, .int .i64 a2_2]] ?_; (with_reducible refine (impl_holdCode.calls k a0_0 a0_1 _ _ l0_2 _ _ l1 a2_0 a2_1 a2_2 t370 _ ?side1 ?side2 ?side3 ?side4 A4.out).mono ?_); (case side1 => exact Xc HR0_2); (case side2 => exact HC0_2.out); (case side3 => exact Xc HR1); (case side4 => exact HC1.out); rintro e w11 ⟨rfl, hb⟩; refine ⟨_, rfl, ?_⟩; replace BK368 := Xbb BK368 hb; replace BK369 := Xbb BK369 hb; replace HB := Aside0.mk (below_step Xi hb); clear hb))
 have H := HC5.out
 clear HC5
 obtain ⟨c12, H⟩ | ⟨c12, H⟩ := Xiu H
 ·have c12b0 : (t370 == 0) = true := beq_iff_eq.mpr c12
  have c12b1 : (t370 != 0) = false := bne_eq_false_iff_eq.mpr c12
  clear c12
  (first | rw [c12b0] | (simp only [i64_w, i32_w]; rw [c12b0]) | skip)
  obtain ⟨t371, A13, H⟩ := Xbi H
  (try dsimp only at H)
  have HC14 := Aside0.mk H
  clear H
  have hnb15 := NB369_368.out
  have hnc15 := NB368_369.out
  obtain ⟨hcz16_0, hcz16_1, hcz16_2⟩ := Xc3 BK369
  go_upto_if 22 with (first | ((with_reducible refine gate_callee (f := 57) rfl ?_); refine Xgo 19 Try.func57 #[.slice A1 l1.length c1, .agg #[.int .i64 a2_0, .int .i64 a2_1, .int .i64 a2_2]] ?_; (with_reducible refine (impl_put.calls k _ _ l1 a2_0 a2_1 a2_2 t371 _ ?side1 ?side2 A13.out).mono ?_); (case side1 => exact Xc HR1); (case side2 => exact HC1.out); rintro e w17 ⟨v372, rfl, ho0, hb⟩; refine ⟨_, rfl, ?_⟩; have HO373 := Aside0.mk (Kd.R_lower (Kd.R_newB ho0 (g := gb369) (o := .cells #[.int .i64 a2_0, .int .i64 a2_1, .int .i64 a2_2] 38 (0, 0)) BK369.out) (below_size Xi)); replace BK368 := Xbb BK368 hb; replace BK369 := Xbb BK369 hb; replace HB := Aside0.mk (below_step Xi hb); clear hb; (try clear ho0); obtain ⟨Ao18, co18, eo18⟩ := Kd.R_slice HO373.out; subst eo18))
  have H := HC14.out
  clear HC14
  obtain ⟨c19, H⟩ | ⟨c19, H⟩ := Xiu H
  ·have c19b0 : decide (30 < (t371.length : Int)) = true := decide_eq_true c19
   have c19b1 : decide (30 < t371.length) = true := decide_eq_true (by omega)
   clear c19
   (first | rw [c19b0] | (simp only [i64_w, i32_w]; rw [c19b0]) | skip)
   simp only [Option.some.injEq, Prod.mk.injEq] at H
   obtain ⟨rfl, rfl⟩ := H
   go_wp2
   go_ret2
   exact ⟨_, Xe, by first | exact Kd.R_nil _ _ _ _ _ | exact Kd.N_nil _ _ _ _ _ | exact Kd.V_nil _ _ _ _ _ | exact Kd.Q_nil _ _ _ _ _ | exact Kd.S_nil _ _ _ _ _, Xi⟩
  ·have c19b0 : decide (30 < (t371.length : Int)) = false := decide_eq_false c19
   have c19b1 : decide (30 < t371.length) = false := decide_eq_false (by omega)
   clear c19
   (first | rw [c19b0] | (simp only [i64_w, i32_w]; rw [c19b0]) | skip)
   simp only [Option.some.injEq, Prod.mk.injEq] at H
   obtain ⟨rfl, rfl⟩ := H
   go_wp2
   go_ret2
   exact ⟨_, Xe, by (with_reducible repeat (first | apply Kd.R_alloc | apply Kd.R_drewN | apply Kd.R_drew)); exact Kd.R_mono HO373.out (fun _ hk => trivial), Xi⟩
 ·have c12b0 : (t370 == 0) = false := beq_eq_false_iff_ne.mpr c12
  have c12b1 : (t370 != 0) = true := bne_iff_ne.mpr c12
  (first | rw [c12b0] | (simp only [i64_w, i32_w]; rw [c12b0]) | skip)
  simp only [Option.some.injEq, Prod.mk.injEq] at H
  obtain ⟨rfl, rfl⟩ := H
  go_wp2
  go_ret2
  exact ⟨_, Xe, by first | exact Kd.R_nil _ _ _ _ _ | exact Kd.N_nil _ _ _ _ _ | exact Kd.V_nil _ _ _ _ _ | exact Kd.Q_nil _ _ _ _ _ | exact Kd.S_nil _ _ _ _ _, Xi⟩

/-! ### laws_eqHold: function 58 -/
def laws_eqHold.f (a0_0 : Int) (a0_1 : Int) (a0_2 : Int) (a1_0 : Int) (a1_1 : Int) (a1_2 : Int) : Option (Bool) := if a0_0 = a1_0 then (if a0_1 = a1_1 then (if a0_2 = a1_2 then (some true) else (some false)) else (some false)) else (some false)
set_option maxHeartbeats 8000000 in
set_option maxRecDepth 100000 in
theorem laws_eqHold.calls (a0_0 : Int) (a0_1 : Int) (a0_2 : Int) (a1_0 : Int) (a1_1 : Int) (a1_2 : Int) (r : Bool) (w : World) (h : laws_eqHold.f a0_0 a0_1 a0_2 a1_0 a1_1 a1_2 = some r) :
  Calls Try.prog 58 #[.agg #[.int .i64 a0_0, .int .i64 a0_1, .int .i64 a0_2], .agg #[.int .i64 a1_0, .int .i64 a1_1, .int .i64 a1_2]] w fun e w' => e = .returned (.bool r) ∧ Below w.heap.size w w' := by
 have hu38 := Try.underlying38
 have HB := Aside0.mk (Below.refl w.heap.size w)
 have H : (if a0_0 = a1_0 then (if a0_1 = a1_1 then (if a0_2 = a1_2 then (some true) else (some false)) else (some false)) else (some false)) = some r := h
 clear h
 have HC3 := Aside0.mk H
 clear H
 go_enter Try.func58, Try.ntmps58
 go_upto_if 9 with (first | ((with_reducible refine gate_dst (N := 2) rfl ?_); refine Xbox 2 #[.int .i64 a0_0, .int .i64 a0_1, .int .i64 a0_2] 38 ?_; intro gb374 hg w4 hbox hb; have BK374 := Aside0.mk (hbox); have GE374 := Xge hg Xi; replace HB := Aside0.mk (below_step Xi hb); clear hb hbox hg) | ((with_reducible refine gate_dst (N := 3) rfl ?_); refine Xbox 3 #[.int .i64 a1_0, .int .i64 a1_1, .int .i64 a1_2] 38 ?_; intro gb375 hg w5 hbox hb; have BK375 := Aside0.mk (hbox); have GE375 := Xge hg Xi; replace HB := Aside0.mk (below_step Xi hb); have NB374_375 := Xnb hg BK374; have NB375_374 := Xns NB374_375; replace BK374 := Xbb BK374 hb; clear hb hbox hg; have hnb6 := NB374_375.out; have hnc6 := NB375_374.out; obtain ⟨hcz7_0, hcz7_1, hcz7_2⟩ := Xc3 BK374; obtain ⟨hcz8_0, hcz8_1, hcz8_2⟩ := Xc3 BK375))
 have H := HC3.out
 clear HC3
 obtain ⟨c9, H⟩ | ⟨c9, H⟩ := Xiu H
 ·have c9b0 : (a0_0 == a1_0) = true := beq_iff_eq.mpr c9
  have c9b1 : (a0_0 != a1_0) = false := bne_eq_false_iff_eq.mpr c9
  clear c9
  (first | rw [c9b0] | (simp only [i64_w, i32_w]; rw [c9b0]) | skip)
  obtain ⟨c10, H⟩ | ⟨c10, H⟩ := Xiu H
  ·have c10b0 : (a0_1 == a1_1) = true := beq_iff_eq.mpr c10
   have c10b1 : (a0_1 != a1_1) = false := bne_eq_false_iff_eq.mpr c10
   clear c10
   obtain ⟨c11, H⟩ | ⟨c11, H⟩ := Xiu H
   ·have c11b0 : (a0_2 == a1_2) = true := beq_iff_eq.mpr c11
    have c11b1 : (a0_2 != a1_2) = false := bne_eq_false_iff_eq.mpr c11
    clear c11
    obtain rfl := Option.some.inj H
    have hnb12 := NB374_375.out
    have hnc12 := NB375_374.out
    obtain ⟨hcz13_0, hcz13_1, hcz13_2⟩ := Xc3 BK374
    obtain ⟨hcz14_0, hcz14_1, hcz14_2⟩ := Xc3 BK375
    go_wp2
    go_ret
    exact ⟨Xe, Xi⟩
   ·have c11b0 : (a0_2 == a1_2) = false := beq_eq_false_iff_ne.mpr c11
    have c11b1 : (a0_2 != a1_2) = true := bne_iff_ne.mpr c11
    obtain rfl := Option.some.inj H
    have hnb15 := NB374_375.out
    have hnc15 := NB375_374.out
    obtain ⟨hcz16_0, hcz16_1, hcz16_2⟩ := Xc3 BK374
    obtain ⟨hcz17_0, hcz17_1, hcz17_2⟩ := Xc3 BK375
    go_wp2
    go_ret
    exact ⟨Xe, Xi⟩
  ·have c10b0 : (a0_1 == a1_1) = false := beq_eq_false_iff_ne.mpr c10
   have c10b1 : (a0_1 != a1_1) = true := bne_iff_ne.mpr c10
   obtain rfl := Option.some.inj H
   have hnb18 := NB374_375.out
   have hnc18 := NB375_374.out
   obtain ⟨hcz19_0, hcz19_1, hcz19_2⟩ := Xc3 BK374
   obtain ⟨hcz20_0, hcz20_1, hcz20_2⟩ := Xc3 BK375
   go_wp2
   go_ret
   exact ⟨Xe, Xi⟩
 ·have c9b0 : (a0_0 == a1_0) = false := beq_eq_false_iff_ne.mpr c9
  have c9b1 : (a0_0 != a1_0) = true := bne_iff_ne.mpr c9
  (first | rw [c9b0] | (simp only [i64_w, i32_w]; rw [c9b0]) | skip)
  obtain rfl := Option.some.inj H
  go_wp2
  go_ret
  exact ⟨Xe, Xi⟩

/-! ### laws_eqHoldS: function 15 -/
def laws_eqHoldS.l0 : Nat → List (S38) → List (S38) → Int → Option (Bool)
 | 0, _, _, _ => none
 | k + 1, x0, x1, x5 => if x5 < (x0.length : Int) then (if 0 ≤ x5 then (if x5 < (x1.length : Int) then ((laws_eqHold.f ((rd_T38 x0 x5).f0) ((rd_T38 x0 x5).f1) ((rd_T38 x0 x5).f2) ((rd_T38 x1 x5).f0) ((rd_T38 x1 x5).f1) ((rd_T38 x1 x5).f2)).bind fun t378 => (if t378 = true then (laws_eqHoldS.l0 k x0 x1 (wrap64 (x5 + 1))) else (some false))) else (none)) else (none)) else (some true)
def laws_eqHoldS.f (k : Nat) (l0 : List (S38)) (l1 : List (S38)) : Option (Bool) := if (l0.length : Int) = (l1.length : Int) then (laws_eqHoldS.l0 k l0 l1 0) else (some false)
def laws_eqHoldS.T6 : Bool × List (List Nat × List Nat) := (true, [([], []), ([], []), ([0, 1], [0, 1]), ([2], [2]), ([], []), ([], []), ([4, 5], [4, 5]), ([6], [6]), ([3, 7], [3, 7]), ([8], [8])])
def laws_eqHoldS.B6 : List Nat := [0, 0, 3, 7, 0, 0, 48, 112, 255, 511]
theorem laws_eqHoldS.tab6 : rtab .any (opsOf Try.f15 6) = laws_eqHoldS.T6 := by kernel_rfl
theorem laws_eqHoldS.bits6 : waitsOk laws_eqHoldS.T6.2 laws_eqHoldS.B6 = true := by kernel_rfl
set_option maxHeartbeats 8000000 in
set_option maxRecDepth 100000 in
theorem laws_eqHoldS.calls (k : Nat) (A0 : Option Addr) (c0 : Nat) (l0 : List (S38)) (A1 : Option Addr) (c1 : Nat) (l1 : List (S38)) (r : Bool) (w : World) (hr0 : Kd.C k38 w A0 l0.length l0) (hc0 : l0.length ≤ c0) (hr1 : Kd.C k38 w A1 l1.length l1) (hc1 : l1.length ≤ c1) (h : laws_eqHoldS.f k l0 l1 = some r) :
  Calls Try.prog 15 #[.slice A0 l0.length c0, .slice A1 l1.length c1] w fun e w' => e = .returned (.bool r) ∧ Below w.heap.size w w' := by
 have hu38 := Try.underlying38
 have HR0 := Aside0.mk hr0
 have HC0 := Aside0.mk hc0
 clear hr0 hc0
 have HR1 := Aside0.mk hr1
 have HC1 := Aside0.mk hc1
 clear hr1 hc1
 have HB := Aside0.mk (Below.refl w.heap.size w)
 have H : (if (l0.length : Int) = (l1.length : Int) then (laws_eqHoldS.l0 k l0 l1 0) else (some false)) = some r := h
 clear h
 obtain ⟨c3, H⟩ | ⟨c3, H⟩ := Xiu H
 ·have c3b0 : ((l0.length : Int) == (l1.length : Int)) = true := beq_iff_eq.mpr c3
  have c3b1 : ((l0.length : Int) != (l1.length : Int)) = false := bne_eq_false_iff_eq.mpr c3
  have c3b2 : (l0.length == l1.length) = true := by first | simpa using c3 | (simp at c3 ⊢; omega)
  clear c3
  have H' := Aside0.mk H
  clear H
  go_enter Try.func15, Try.ntmps15
  go_wp2
  go_loopg [5] k (fun kq v5 w' => ∃ (x5_1 : Int), v5 = .int .i64 x5_1 ∧ Aside0 (laws_eqHoldS.l0 kq l0 l1 x5_1 = some r) ∧ Aside0 (kq ≤ k) ∧ Aside0 (Below w.heap.size w w'))
  case atStart => exact ⟨(0), Xr, H', Xkr, ⟨Xi⟩⟩
  case round =>
   clear H'
   (try clear c1); (try clear c3); (try clear c3b0); (try clear c3b1); (try clear c3b2)
   obtain ⟨x5_1, rfl, HA, HK1, HB⟩ := hrel
   cases gk with
   | zero => cases HA.out
   | succ k1 =>
    have H := HA.out
    clear HA
    simp only [laws_eqHoldS.l0] at H
    obtain ⟨c4b0, H⟩ | ⟨c4b0, H⟩ := Xit H
    ·obtain ⟨c5b0, H⟩ := Xid H
     obtain ⟨c6b0, H⟩ := Xid H
     obtain ⟨t378, A7, H⟩ := Xbi H
     (try dsimp only at H)
     have HC8 := Aside0.mk H
     clear H
     try go_wp2_with (fail)
     replace HB := Aside0.mk (below_drew1 HB.out)
     have p376 : 0 ≤ (x5_1 : Int) := of_decide_eq_true Xa
     have q376 : x5_1 < (l0.length : Int) := of_decide_eq_true Xa
     obtain ⟨ad376, e376, hx376_0, hx376_1, hx376_2⟩ := at_T38 HR0.out x5_1 p376 q376
     have hw376_2 := hx376_2
     have hw376_1 := hx376_1
     have hw376_0 := hx376_0
     cases e376
     replace hx376_0 := Xm HB hx376_0
     replace hx376_1 := Xm HB hx376_1
     replace hx376_2 := Xm HB hx376_2
     replace p376 := eq_true p376
     replace q376 := eq_true q376
     have p377 : 0 ≤ (x5_1 : Int) := of_decide_eq_true Xa
     have q377 : x5_1 < (l1.length : Int) := of_decide_eq_true Xa
     obtain ⟨ad377, e377, hx377_0, hx377_1, hx377_2⟩ := at_T38 HR1.out x5_1 p377 q377
     have hw377_2 := hx377_2
     have hw377_1 := hx377_1
     have hw377_0 := hx377_0
     cases e377
     replace hx377_0 := Xm HB hx377_0
     replace hx377_1 := Xm HB hx377_1
     replace hx377_2 := Xm HB hx377_2
     replace p377 := eq_true p377
     replace q377 := eq_true q377
     refine start_ (n := 10) (S := fun w' => w'.cell? (ad376.add ((x5_1).toNat * 3)) = some (.int .i64 ((rd_T38 l0 x5_1).f0)) ∧ w'.cell? ⟨(ad376.add ((x5_1).toNat * 3)).block, (ad376.add ((x5_1).toNat * 3)).off + 1, none⟩ = some (.int .i64 ((rd_T38 l0 x5_1).f1)) ∧ w'.cell? ⟨(ad376.add ((x5_1).toNat * 3)).block, (ad376.add ((x5_1).toNat * 3)).off + 2, none⟩ = some (.int .i64 ((rd_T38 l0 x5_1).f2)) ∧ w'.cell? (ad377.add ((x5_1).toNat * 3)) = some (.int .i64 ((rd_T38 l1 x5_1).f0)) ∧ w'.cell? ⟨(ad377.add ((x5_1).toNat * 3)).block, (ad377.add ((x5_1).toNat * 3)).off + 1, none⟩ = some (.int .i64 ((rd_T38 l1 x5_1).f1)) ∧ w'.cell? ⟨(ad377.add ((x5_1).toNat * 3)).block, (ad377.add ((x5_1).toNat * 3)).off + 2, none⟩ = some (.int .i64 ((rd_T38 l1 x5_1).f2))) (ds := []) #[false, false, false, false, false, false, false, false, false, false] (by kernel_rfl) rfl rfl ⟨Xn hw376_0, Xn hw376_1, Xn hw376_2, Xn hw377_0, Xn hw377_1, Xn hw377_2⟩ (fun hHeld => ?_); refine with_tabW laws_eqHoldS.tab6 laws_eqHoldS.bits6 (fun HT_ HW_ => ?_)
     generalize wr.drew = w9 at HB hx376_0 hx376_1 hx376_2 hx377_0 hx377_1 hx377_2 hHeld ⊢
     refine Xpu 0 17 (XW.bs 10 1) HT_.out ?_
     refine Xpu 1 18 (XW.bs 10 3) HT_.out ?_
     refine Xpu 2 19 (XW.bs 10 7) HT_.out ?_
     refine Xpu 4 21 (XW.bs 10 23) HT_.out ?_
     refine Xpu 5 22 (XW.bs 10 55) HT_.out ?_
     refine Xpu 6 23 (XW.bs 10 119) HT_.out ?_
     refine Xta 3 20 (XW.bs 10 127) HT_.out HW_.out hHeld ?_
     refine Xta 7 24 (XW.bs 10 255) HT_.out HW_.out hHeld ?_
     refine one_ (i := 8) (N := some 25) (XW.bs 10 511) rfl rfl (one_of HT_.out (by kernel_rfl)) (by decide) (fun K hK => ?_)
     refine goes_ Try.func58 (by kernel_rfl) rfl #[.agg #[.int .i64 ((rd_T38 l0 x5_1).f0), .int .i64 ((rd_T38 l0 x5_1).f1), .int .i64 ((rd_T38 l0 x5_1).f2)], .agg #[.int .i64 ((rd_T38 l1 x5_1).f0), .int .i64 ((rd_T38 l1 x5_1).f1), .int .i64 ((rd_T38 l1 x5_1).f2)]] (by rfl) rfl rfl (by (try simp only [List.map_toArray, List.map_cons, List.map_nil]); first | done | rfl | (simp only [List.length_drop, List.length_take]; rfl)) ?_
     with_reducible refine (laws_eqHold.calls ((rd_T38 l0 x5_1).f0) ((rd_T38 l0 x5_1).f1) ((rd_T38 l0 x5_1).f2) ((rd_T38 l1 x5_1).f0) ((rd_T38 l1 x5_1).f1) ((rd_T38 l1 x5_1).f2) t378 _ A7.out).mono ?_
     rintro e w10 ⟨rfl, hb⟩
     refine ⟨_, rfl, ?_⟩
     replace HB := Aside0.mk (below_step Xi hb)
     (try clear hb)
     (try clear hb2)
     (try clear hk)
     (try clear hi)
     refine hK.out _ _ ⟨Xn hw376_0, Xn hw376_1, Xn hw376_2, Xn hw377_0, Xn hw377_1, Xn hw377_2⟩ (fun hHeld => ?_)
     clear hK K
     refine Xno ?_
     refine Xpu 9 26 (XW.bs 10 1023) HT_.out ?_
     refine done_ (done_of HT_.out (by kernel_rfl)) ?_
     go_upto_if 26 with (fail)
     have H := HC8.out
     clear HC8
     by_cases c11 : t378 = true
     ·subst c11
      (first | rw [if_pos rfl] at H | skip)
      have H' := Aside0.mk H
      clear H
      go_wp2
      go_roundg k1
      case measure => have := HK1.out; omega
      case rel => exact ⟨(wrap64 (x5_1 + 1)), Xr, H', Xk1, ⟨Xi⟩⟩
     ·replace c11 := Bool.eq_false_iff.mpr c11
      subst c11
      (first | rw [if_neg (show ¬ (false = true) by decide)] at H | skip)
      obtain rfl := Option.some.inj H
      go_wp2
      go_ret
      exact ⟨Xe, Xi⟩
    ·obtain rfl := Option.some.inj H
     go_wp2
     go_ret
     exact ⟨Xe, Xi⟩
 ·have c3b0 : ((l0.length : Int) == (l1.length : Int)) = false := beq_eq_false_iff_ne.mpr c3
  have c3b1 : ((l0.length : Int) != (l1.length : Int)) = true := bne_iff_ne.mpr c3
  have c3b2 : (l0.length == l1.length) = false := by first | simpa using c3 | (simp at c3 ⊢; omega)
  obtain rfl := Option.some.inj H
  go_enter Try.func15, Try.ntmps15
  go_wp2
  go_ret
  exact ⟨Xe, Xi⟩

end Go.Proofs.Ytocelbmpnjnnbaa.XA
