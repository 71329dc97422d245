/- Contracts of the program's functions: each Go function that is named below comes to what its Lean function says. Written by xprint.py (a program of this session's, over the kit's print). Conditions: each contract's own premises. -/
import Derived.Test.YtocelbmpnjnnbaaYPutHold0
import Derived.Test.YtocelbmpnjnnbaaYPutHold12
namespace Go.Proofs.Ytocelbmpnjnnbaa.XA
open Go.RowKit Go.Proofs.YtocelbmpnjnnbaaW.PrintWords Go.Proofs.YtocelbmpnjnnbaaW.PrintLast Go.Proofs.YtocelbmpnjnnbaaW.PrintMore XW
attribute [local go_sem] max2_int min2_int max_two min_two max_three min_three max_four min_four   -- for this text's walks alone
set_option linter.unusedVariables false
set_option linter.unusedSimpArgs false

/-! ### slices_BinarySearchFunc_impl_Hold_impl_Hold_impl_Hold_at_impl_compareHolds: function 119 -/
def slices_BinarySearchFunc_impl_Hold_impl_Hold_impl_Hold_at_impl_compareHolds.l0 : Nat → List (S38) → Int → Int → Int → Int → Int → Int → Option (Int × Bool)
 | 0, _, _, _, _, _, _, _ => none
 | k + 1, x0, x8, x9, x10, x349000, x349001, x349002 => if x9 < x10 then (if 0 ≤ (wrap64 ((IntKind.u64.wrap (wrap64 (x9 + x10))) / 2)) then (if (wrap64 ((IntKind.u64.wrap (wrap64 (x9 + x10))) / 2)) < (x0.length : Int) then ((impl_compareHolds.f k ((rd_T38 x0 (wrap64 ((IntKind.u64.wrap (wrap64 (x9 + x10))) / 2))).f0) ((rd_T38 x0 (wrap64 ((IntKind.u64.wrap (wrap64 (x9 + x10))) / 2))).f1) ((rd_T38 x0 (wrap64 ((IntKind.u64.wrap (wrap64 (x9 + x10))) / 2))).f2) x349000 x349001 x349002).bind fun t350 => (if t350 < 0 then (slices_BinarySearchFunc_impl_Hold_impl_Hold_impl_Hold_at_impl_compareHolds.l0 k x0 x8 (wrap64 ((wrap64 ((IntKind.u64.wrap (wrap64 (x9 + x10))) / 2)) + 1)) x10 x349000 x349001 x349002) else (slices_BinarySearchFunc_impl_Hold_impl_Hold_impl_Hold_at_impl_compareHolds.l0 k x0 x8 x9 (wrap64 ((IntKind.u64.wrap (wrap64 (x9 + x10))) / 2)) x349000 x349001 x349002))) else (none)) else (none)) else (if x9 < x8 then (if 0 ≤ x9 then (if x9 < (x0.length : Int) then ((impl_compareHolds.f k ((rd_T38 x0 x9).f0) ((rd_T38 x0 x9).f1) ((rd_T38 x0 x9).f2) x349000 x349001 x349002).bind fun t352 => (some (x9, (t352 == 0)))) else (none)) else (none)) else (some (x9, false)))
def slices_BinarySearchFunc_impl_Hold_impl_Hold_impl_Hold_at_impl_compareHolds.f (k : Nat) (l0 : List (S38)) (a1_0 : Int) (a1_1 : Int) (a1_2 : Int)  : Option (Int × Bool) := slices_BinarySearchFunc_impl_Hold_impl_Hold_impl_Hold_at_impl_compareHolds.l0 k l0 (l0.length : Int) 0 (l0.length : Int) a1_0 a1_1 a1_2
def slices_BinarySearchFunc_impl_Hold_impl_Hold_impl_Hold_at_impl_compareHolds.T5 : Bool × List (List Nat × List Nat) := (true, [([], []), ([], []), ([], []), ([1, 2], [1, 2]), ([3], [3]), ([], []), ([0, 4, 5], [0, 4, 5]), ([6], [6])])
def slices_BinarySearchFunc_impl_Hold_impl_Hold_impl_Hold_at_impl_compareHolds.B5 : List Nat := [0, 0, 0, 6, 14, 0, 63, 127]
theorem slices_BinarySearchFunc_impl_Hold_impl_Hold_impl_Hold_at_impl_compareHolds.tab5 : rtab .any (opsOf Try.f119 5) = slices_BinarySearchFunc_impl_Hold_impl_Hold_impl_Hold_at_impl_compareHolds.T5 := by kernel_rfl
theorem slices_BinarySearchFunc_impl_Hold_impl_Hold_impl_Hold_at_impl_compareHolds.bits5 : waitsOk slices_BinarySearchFunc_impl_Hold_impl_Hold_impl_Hold_at_impl_compareHolds.T5.2 slices_BinarySearchFunc_impl_Hold_impl_Hold_impl_Hold_at_impl_compareHolds.B5 = true := by kernel_rfl
def slices_BinarySearchFunc_impl_Hold_impl_Hold_impl_Hold_at_impl_compareHolds.T8 : Bool × List (List Nat × List Nat) := (true, [([], []), ([], []), ([], []), ([1, 2], [1, 2]), ([3], [3]), ([4], [4]), ([4], [4]), ([4], [4]), ([6, 7, 4], [4, 6, 7]), ([8, 4], [4, 8]), ([4], [4]), ([5, 9, 10, 4, 4], [4, 5, 9, 10]), ([11, 4], [4, 11]), ([4, 12], [4, 12]), ([0, 11, 0], [0]), ([13, 14, 0, 1, 2, 3, 4, 5, 6, 7, 8, 9, 10, 11, 12, 13, 14], [13])])
def slices_BinarySearchFunc_impl_Hold_impl_Hold_impl_Hold_at_impl_compareHolds.B8 : List Nat := [0, 0, 0, 6, 14, 30, 30, 30, 222, 478, 30, 2046, 4094, 8190, 4095, 32767]
theorem slices_BinarySearchFunc_impl_Hold_impl_Hold_impl_Hold_at_impl_compareHolds.tab8 : rtab .any (opsOf Try.f119 8) = slices_BinarySearchFunc_impl_Hold_impl_Hold_impl_Hold_at_impl_compareHolds.T8 := by kernel_rfl
theorem slices_BinarySearchFunc_impl_Hold_impl_Hold_impl_Hold_at_impl_compareHolds.bits8 : waitsOk slices_BinarySearchFunc_impl_Hold_impl_Hold_impl_Hold_at_impl_compareHolds.T8.2 slices_BinarySearchFunc_impl_Hold_impl_Hold_impl_Hold_at_impl_compareHolds.B8 = true := by kernel_rfl
set_option maxHeartbeats 8000000 in
set_option maxRecDepth 100000 in
theorem slices_BinarySearchFunc_impl_Hold_impl_Hold_impl_Hold_at_impl_compareHolds.calls (k : Nat) (A0 : Option Addr) (c0 : Nat) (l0 : List (S38)) (a1_0 : Int) (a1_1 : Int) (a1_2 : Int)  (r1 : Int) (r2 : Bool) (w : World) (hr0 : Kd.C k38 w A0 l0.length l0) (hc0 : l0.length ≤ c0) (h : slices_BinarySearchFunc_impl_Hold_impl_Hold_impl_Hold_at_impl_compareHolds.f k l0 a1_0 a1_1 a1_2 = some (r1, r2)) :
  Calls Try.prog 119 #[.slice A0 l0.length c0, .agg #[.int .i64 a1_0, .int .i64 a1_1, .int .i64 a1_2], .func (.func 120) #[] #[]] w fun e w' => e = .returned (.tuple #[.int .i64 r1, .bool r2]) ∧ Below w.heap.size w w' := by
 have hu38 := Try.underlying38
 have HR0 := Aside0.mk hr0
 have HC0 := Aside0.mk hc0
 clear hr0 hc0
 have HB := Aside0.mk (Below.refl w.heap.size w)
 have H : (slices_BinarySearchFunc_impl_Hold_impl_Hold_impl_Hold_at_impl_compareHolds.l0 k l0 (l0.length : Int) 0 (l0.length : Int) a1_0 a1_1 a1_2) = some (r1, r2) := h
 clear h
 have H' := Aside0.mk H
 clear H
 go_enter Try.func119, Try.ntmps119
 go_wp2_with (first | ((with_reducible refine gate_dst (N := 4) rfl ?_); refine Xbox 4 #[.int .i64 a1_0, .int .i64 a1_1, .int .i64 a1_2] 38 ?_; intro gb348 hg w4 hbox hb; have BK348 := Aside0.mk (hbox); have GE348 := Xge hg Xi; replace HB := Aside0.mk (below_step Xi hb); clear hb hbox hg))
 go_loopg [9, 10] k (fun kq v9 v10 w' => ∃ (x9_1 : Int) (x10_1 : Int), v9 = .int .i64 x9_1 ∧ v10 = .int .i64 x10_1 ∧ Aside0 (slices_BinarySearchFunc_impl_Hold_impl_Hold_impl_Hold_at_impl_compareHolds.l0 kq l0 (l0.length : Int) x9_1 x10_1 a1_0 a1_1 a1_2 = some (r1, r2)) ∧ Aside0 (kq ≤ k) ∧ Aside0 (w'.heap[gb348]? = some (.cells #[.int .i64 a1_0, .int .i64 a1_1, .int .i64 a1_2] 38 (0, 0))) ∧ Aside0 (Below w.heap.size w w'))
 case atStart => exact ⟨(0), ((l0.length : Int)), Xr, Xr, H', Xkr, BK348, ⟨Xi⟩⟩
 case round =>
  clear H'
  obtain ⟨x9_1, x10_1, rfl, rfl, HA, HK1, BK348, HB⟩ := hrel
  cases gk with
  | zero => cases HA.out
  | succ k1 =>
   have H := HA.out
   clear HA
   simp only [slices_BinarySearchFunc_impl_Hold_impl_Hold_impl_Hold_at_impl_compareHolds.l0] at H
   obtain ⟨c5b0, H⟩ | ⟨c5b0, H⟩ := Xit H
   ·obtain ⟨ji6, hji6⟩ : ∃ j_ : Int, (wrap64 ((IntKind.u64.wrap (wrap64 (x9_1 + x10_1))) / 2)) = j_ := ⟨_, rfl⟩
    replace H : (if 0 ≤ (ji6) then (if (ji6) < (l0.length : Int) then ((impl_compareHolds.f k1 ((rd_T38 l0 (ji6)).f0) ((rd_T38 l0 (ji6)).f1) ((rd_T38 l0 (ji6)).f2) a1_0 a1_1 a1_2).bind fun t350 => (if t350 < 0 then (slices_BinarySearchFunc_impl_Hold_impl_Hold_impl_Hold_at_impl_compareHolds.l0 k1 l0 (l0.length : Int) (wrap64 ((ji6) + 1)) x10_1 a1_0 a1_1 a1_2) else (slices_BinarySearchFunc_impl_Hold_impl_Hold_impl_Hold_at_impl_compareHolds.l0 k1 l0 (l0.length : Int) x9_1 ji6 a1_0 a1_1 a1_2))) else (none)) else (none)) = some (r1, r2) := by first | (rw [hji6] at H; exact H) | (simp only [hji6] at H ⊢; exact H)
    have hji6w : (IntKind.i64.wrap ((IntKind.u64.wrap (wrap64 (x9_1 + x10_1))) / 2)) = ji6 := (i64_w _).trans hji6
    obtain ⟨c7b0, H⟩ := Xid H
    obtain ⟨c8b0, H⟩ := Xid H
    obtain ⟨t350, A9, H⟩ := Xbi H
    (try dsimp only at H)
    have HC10 := Aside0.mk H
    clear H
    try go_wp2_with (fail)
    replace BK348 := Aside0.mk (blk_drew BK348.out)
    replace HB := Aside0.mk (below_drew1 HB.out)
    have p349 : 0 ≤ ((ji6) : Int) := of_decide_eq_true Xa
    have q349 : (ji6) < (l0.length : Int) := of_decide_eq_true Xa
    obtain ⟨ad349, e349, hx349_0, hx349_1, hx349_2⟩ := at_T38 HR0.out (ji6) p349 q349
    have hw349_2 := hx349_2
    have hw349_1 := hx349_1
    have hw349_0 := hx349_0
    cases e349
    replace hx349_0 := Xm HB hx349_0
    replace hx349_1 := Xm HB hx349_1
    replace hx349_2 := Xm HB hx349_2
    replace p349 := eq_true p349
    replace q349 := eq_true q349
    refine start_ (n := 8) (S := fun w' => w'.cell? ⟨gb348, 0, none⟩ = some (.int .i64 a1_0) ∧ w'.cell? ⟨gb348, 1, none⟩ = some (.int .i64 a1_1) ∧ w'.cell? ⟨gb348, 2, none⟩ = some (.int .i64 a1_2) ∧ w'.cell? (ad349.add (((ji6)).toNat * 3)) = some (.int .i64 ((rd_T38 l0 (ji6)).f0)) ∧ w'.cell? ⟨(ad349.add (((ji6)).toNat * 3)).block, (ad349.add (((ji6)).toNat * 3)).off + 1, none⟩ = some (.int .i64 ((rd_T38 l0 (ji6)).f1)) ∧ w'.cell? ⟨(ad349.add (((ji6)).toNat * 3)).block, (ad349.add (((ji6)).toNat * 3)).off + 2, none⟩ = some (.int .i64 ((rd_T38 l0 (ji6)).f2))) (ds := []) #[false, false, false, false, false, false, false, false] (by kernel_rfl) rfl rfl ⟨(blk_cell BK348.out 0).trans rfl, (blk_cell BK348.out 1).trans rfl, (blk_cell BK348.out 2).trans rfl, Xn hw349_0, Xn hw349_1, Xn hw349_2⟩ (fun hHeld => ?_); refine with_tabW slices_BinarySearchFunc_impl_Hold_impl_Hold_impl_Hold_at_impl_compareHolds.tab5 slices_BinarySearchFunc_impl_Hold_impl_Hold_impl_Hold_at_impl_compareHolds.bits5 (fun HT_ HW_ => ?_)
    generalize wr.drew = w11 at BK348 HB hx349_0 hx349_1 hx349_2 hHeld ⊢
    refine Xpu 0 24 (XW.bs 8 1) HT_.out ?_
    refine Xpu 1 25 (XW.bs 8 3) HT_.out ?_
    refine Xpu 2 26 (XW.bs 8 7) HT_.out ?_
    refine Xpu 3 27 (XW.bs 8 15) HT_.out ?_
    refine Xta 4 28 (XW.bs 8 31) HT_.out HW_.out hHeld ?_
    refine Xta 5 29 (XW.bs 8 63) HT_.out HW_.out hHeld ?_
    refine one_ (i := 6) (N := some 30) (XW.bs 8 127) rfl rfl (one_of HT_.out (by kernel_rfl)) (by decide) (fun K hK => ?_)
    (first | refine goes_ Try.func120 (by kernel_rfl) rfl #[.agg #[.int .i64 ((rd_T38 l0 (ji6)).f0), .int .i64 ((rd_T38 l0 (ji6)).f1), .int .i64 ((rd_T38 l0 (ji6)).f2)], .agg #[.int .i64 a1_0, .int .i64 a1_1, .int .i64 a1_2]] (by rfl) rfl rfl (by (try simp only [List.map_toArray, List.map_cons, List.map_nil]); first | done | (simp only [hji6]; rfl) | rfl | (simp only [List.length_drop, List.length_take]; rfl)) ?_ | refine Xgv Try.func120 #[.agg #[.int .i64 ((rd_T38 l0 (ji6)).f0), .int .i64 ((rd_T38 l0 (ji6)).f1), .int .i64 ((rd_T38 l0 (ji6)).f2)], .agg #[.int .i64 a1_0, .int .i64 a1_1, .int .i64 a1_2]] ?_)
    with_reducible refine (impl_compareHolds.calls k1 ((rd_T38 l0 (ji6)).f0) ((rd_T38 l0 (ji6)).f1) ((rd_T38 l0 (ji6)).f2) a1_0 a1_1 a1_2 t350 _ A9.out).mono ?_
    rintro e w12 ⟨rfl, hb⟩
    refine ⟨_, rfl, ?_⟩
    replace BK348 := Xbb BK348 hb
    replace HB := Aside0.mk (below_step Xi hb)
    (try clear hb)
    (try clear hb2)
    (try clear hk)
    (try clear hi)
    refine hK.out _ _ ⟨(blk_cell BK348.out 0).trans rfl, (blk_cell BK348.out 1).trans rfl, (blk_cell BK348.out 2).trans rfl, Xn hw349_0, Xn hw349_1, Xn hw349_2⟩ (fun hHeld => ?_)
    clear hK K
    refine Xno ?_
    refine Xpu 7 31 (XW.bs 8 255) HT_.out ?_
    refine done_ (done_of HT_.out (by kernel_rfl)) ?_
    go_upto_if 31 with (fail)
    have H := HC10.out
    clear HC10
    obtain ⟨c13b0, H⟩ | ⟨c13b0, H⟩ := Xit H
    ·(first | rw [c13b0] | (simp only [i64_w, i32_w]; rw [c13b0]) | skip)
     have H' := Aside0.mk H
     clear H
     go_wp2
     go_roundg k1
     case measure => have := HK1.out; omega
     case rel => exact ⟨(wrap64 ((ji6) + 1)), (x10_1), (by first | rfl | (simp; done) | (simp only [← hji6] <;> (first | rfl | simp)) | (simp [*]; done)), Xr, H', Xk1, BK348, ⟨Xi⟩⟩
    ·(first | rw [c13b0] | (simp only [i64_w, i32_w]; rw [c13b0]) | skip)
     have H' := Aside0.mk H
     clear H
     go_wp2
     go_roundg k1
     case measure => have := HK1.out; omega
     case rel => exact ⟨(x9_1), (ji6), Xr, (by first | rfl | (simp; done) | (simp only [← hji6] <;> (first | rfl | simp)) | (simp [*]; done)), H', Xk1, BK348, ⟨Xi⟩⟩
   ·obtain ⟨c14b0, H⟩ | ⟨c14b0, H⟩ := Xit H
    ·obtain ⟨c15b0, H⟩ := Xid H
     obtain ⟨c16b0, H⟩ := Xid H
     obtain ⟨t352, A17, H⟩ := Xbi H
     (try dsimp only at H)
     simp only [Option.some.injEq, Prod.mk.injEq] at H
     obtain ⟨rfl, rfl⟩ := H
     try go_wp2_with (fail)
     replace BK348 := Aside0.mk (blk_drew BK348.out)
     replace HB := Aside0.mk (below_drew1 HB.out)
     have p351 : 0 ≤ (x9_1 : Int) := of_decide_eq_true Xa
     have q351 : x9_1 < (l0.length : Int) := of_decide_eq_true Xa
     obtain ⟨ad351, e351, hx351_0, hx351_1, hx351_2⟩ := at_T38 HR0.out x9_1 p351 q351
     have hw351_2 := hx351_2
     have hw351_1 := hx351_1
     have hw351_0 := hx351_0
     cases e351
     replace hx351_0 := Xm HB hx351_0
     replace hx351_1 := Xm HB hx351_1
     replace hx351_2 := Xm HB hx351_2
     replace p351 := eq_true p351
     replace q351 := eq_true q351
     refine start_ (n := 16) (S := fun w' => w'.cell? ⟨gb348, 0, none⟩ = some (.int .i64 a1_0) ∧ w'.cell? ⟨gb348, 1, none⟩ = some (.int .i64 a1_1) ∧ w'.cell? ⟨gb348, 2, none⟩ = some (.int .i64 a1_2) ∧ w'.cell? (ad351.add ((x9_1).toNat * 3)) = some (.int .i64 ((rd_T38 l0 x9_1).f0)) ∧ w'.cell? ⟨(ad351.add ((x9_1).toNat * 3)).block, (ad351.add ((x9_1).toNat * 3)).off + 1, none⟩ = some (.int .i64 ((rd_T38 l0 x9_1).f1)) ∧ w'.cell? ⟨(ad351.add ((x9_1).toNat * 3)).block, (ad351.add ((x9_1).toNat * 3)).off + 2, none⟩ = some (.int .i64 ((rd_T38 l0 x9_1).f2))) (ds := []) #[false, false, false, false, false, false, false, false, false, false, false, false, false, false, false, false] (by kernel_rfl) rfl rfl ⟨(blk_cell BK348.out 0).trans rfl, (blk_cell BK348.out 1).trans rfl, (blk_cell BK348.out 2).trans rfl, Xn hw351_0, Xn hw351_1, Xn hw351_2⟩ (fun hHeld => ?_); refine with_tabW slices_BinarySearchFunc_impl_Hold_impl_Hold_impl_Hold_at_impl_compareHolds.tab8 slices_BinarySearchFunc_impl_Hold_impl_Hold_impl_Hold_at_impl_compareHolds.bits8 (fun HT_ HW_ => ?_)
     generalize wr.drew = w18 at BK348 HB hx351_0 hx351_1 hx351_2 hHeld ⊢
     refine Xpu 0 35 (XW.bs 16 1) HT_.out ?_
     refine Xpu 1 36 (XW.bs 16 3) HT_.out ?_
     refine Xpu 2 37 (XW.bs 16 7) HT_.out ?_
     refine Xpu 3 38 (XW.bs 16 15) HT_.out ?_
     refine Xpu 4 39 (XW.bs 16 31) HT_.out ?_
     refine Xpu 5 40 (XW.bs 16 63) HT_.out ?_
     refine Xpu 6 41 (XW.bs 16 127) HT_.out ?_
     refine Xpu 7 42 (XW.bs 16 255) HT_.out ?_
     refine Xpu 8 43 (XW.bs 16 511) HT_.out ?_
     refine Xta 9 44 (XW.bs 16 1023) HT_.out HW_.out hHeld ?_
     refine Xta 10 45 (XW.bs 16 2047) HT_.out HW_.out hHeld ?_
     refine one_ (i := 11) (N := some 46) (XW.bs 16 4095) rfl rfl (one_of HT_.out (by kernel_rfl)) (by decide) (fun K hK => ?_)
     (first | refine goes_ Try.func120 (by kernel_rfl) rfl #[.agg #[.int .i64 ((rd_T38 l0 x9_1).f0), .int .i64 ((rd_T38 l0 x9_1).f1), .int .i64 ((rd_T38 l0 x9_1).f2)], .agg #[.int .i64 a1_0, .int .i64 a1_1, .int .i64 a1_2]] (by rfl) rfl rfl (by (try simp only [List.map_toArray, List.map_cons, List.map_nil]); first | done | rfl | (simp only [List.length_drop, List.length_take]; rfl)) ?_ | refine Xgv Try.func120 #[.agg #[.int .i64 ((rd_T38 l0 x9_1).f0), .int .i64 ((rd_T38 l0 x9_1).f1), .int .i64 ((rd_T38 l0 x9_1).f2)], .agg #[.int .i64 a1_0, .int .i64 a1_1, .int .i64 a1_2]] ?_)
     with_reducible refine (impl_compareHolds.calls k1 ((rd_T38 l0 x9_1).f0) ((rd_T38 l0 x9_1).f1) ((rd_T38 l0 x9_1).f2) a1_0 a1_1 a1_2 t352 _ A17.out).mono ?_
     rintro e w19 ⟨rfl, hb⟩
     refine ⟨_, rfl, ?_⟩
     replace BK348 := Xbb BK348 hb
     replace HB := Aside0.mk (below_step Xi hb)
     (try clear hb)
     (try clear hb2)
     (try clear hk)
     (try clear hi)
     refine hK.out _ _ ⟨(blk_cell BK348.out 0).trans rfl, (blk_cell BK348.out 1).trans rfl, (blk_cell BK348.out 2).trans rfl, Xn hw351_0, Xn hw351_1, Xn hw351_2⟩ (fun hHeld => ?_)
     clear hK K
     refine Xno ?_
     refine Xpu 12 47 (XW.bs 16 8191) HT_.out ?_
     refine Xpu 13 48 (XW.bs 16 16383) HT_.out ?_
     refine Xpu 14 6 (XW.bs 16 32767) HT_.out ?_
     refine Xpu 15 7 (XW.bs 16 65535) HT_.out ?_
     refine done_ (done_of HT_.out (by kernel_rfl)) ?_
     try go_wp2_with (fail)
     go_ret2
     exact ⟨Xe, Xi⟩
    ·simp only [Option.some.injEq, Prod.mk.injEq] at H
     obtain ⟨rfl, rfl⟩ := H
     try go_wp2_with (fail)
     replace BK348 := Aside0.mk (blk_drew BK348.out)
     replace HB := Aside0.mk (below_drew1 HB.out)
     refine start_ (n := 16) (S := fun w' => True) (ds := []) #[false, false, false, false, false, false, false, false, false, false, false, false, false, false, false, false] (by kernel_rfl) rfl rfl trivial (fun hHeld => ?_); refine with_tabW slices_BinarySearchFunc_impl_Hold_impl_Hold_impl_Hold_at_impl_compareHolds.tab8 slices_BinarySearchFunc_impl_Hold_impl_Hold_impl_Hold_at_impl_compareHolds.bits8 (fun HT_ HW_ => ?_)
     generalize wr.drew = w20 at BK348 HB hHeld ⊢
     refine Xpu 0 35 (XW.bs 16 1) HT_.out ?_
     refine Xpu 1 36 (XW.bs 16 3) HT_.out ?_
     refine Xpu 2 37 (XW.bs 16 7) HT_.out ?_
     refine Xpu 3 38 (XW.bs 16 15) HT_.out ?_
     refine Xpu 4 39 (XW.bs 16 31) HT_.out ?_
     refine Xpn 5 40 (XW.bs 16 63) HT_.out ?_
     refine Xpn 6 41 (XW.bs 16 127) HT_.out ?_
     refine Xpn 7 42 (XW.bs 16 255) HT_.out ?_
     refine Xpn 8 43 (XW.bs 16 511) HT_.out ?_
     refine Xpn 9 44 (XW.bs 16 1023) HT_.out ?_
     refine Xpn 10 45 (XW.bs 16 2047) HT_.out ?_
     refine Xpn 11 46 (XW.bs 16 4095) HT_.out ?_
     refine Xpn 12 47 (XW.bs 16 8191) HT_.out ?_
     refine Xpu 13 48 (XW.bs 16 16383) HT_.out ?_
     refine Xpu 14 6 (XW.bs 16 32767) HT_.out ?_
     refine Xpu 15 7 (XW.bs 16 65535) HT_.out ?_
     refine done_ (done_of HT_.out (by kernel_rfl)) ?_
     try go_wp2_with (fail)
     go_ret2
     exact ⟨Xe, Xi⟩

end Go.Proofs.Ytocelbmpnjnnbaa.XA
