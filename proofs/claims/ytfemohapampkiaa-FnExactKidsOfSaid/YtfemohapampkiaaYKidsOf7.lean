/- Contracts of the program's functions: each Go function that is named below comes to what its Lean function says. Written by xprint.py (a program of this session's, over the kit's print). Conditions: each contract's own premises. -/
import Derived.Test.YtfemohapampkiaaYKidsOf0
import Derived.Test.YtfemohapampkiaaYKidsOf2
import Derived.Test.YtfemohapampkiaaYKidsOf6
namespace Go.Proofs.Ytfemohapampkiaa.XA
open Go.RowKit Go.Proofs.YtfemohapampkiaaW.PrintWords Go.Proofs.YtfemohapampkiaaW.PrintLast Go.Proofs.YtfemohapampkiaaW.PrintMore XW
attribute [local go_sem] max2_int min2_int max_two min_two max_three min_three max_four min_four   -- for this text's walks alone
set_option linter.unusedVariables false
set_option linter.unusedSimpArgs false

/-! ### spec_KidsOf: function 20 -/
def spec_KidsOf.f (k : Nat) (a0_0 : Int) (a0_1 : Int) (l0_2 : List (S88)) (a1 : Int) : Option (List Int × Int) := (spec_l02Ask.f k a0_0 a0_1 l0_2 a1).bind fun t206 => (if t206 = 0 then ((spec_l02At.f k a0_0 a0_1 l0_2 a1).bind fun t207 => (if 0 ≤ t207 then (if t207 < (l0_2.length : Int) then ((spec_l05Kids.f k a0_0 a0_1 l0_2 ((rd_T88 l0_2 t207).f0) ((rd_T88 l0_2 t207).f1) ((rd_T88 l0_2 t207).f2) ((rd_T88 l0_2 t207).f3) ((rd_T88 l0_2 t207).f4)).bind fun t209 => (some (t209, 0))) else (none)) else (none))) else (some ((([] : List Int)), t206)))
def spec_KidsOf.T4 : Bool × List (List Nat × List Nat) := (true, [([], []), ([], []), ([1], [1]), ([], []), ([], []), ([3, 4], [3, 4]), ([2, 5], [2, 5]), ([6], [6]), ([0, 7, 5], [0, 7]), ([8, 8, 0, 1, 2, 3, 4, 5, 6, 7, 8], [8]), ([9, 0, 1, 2, 3, 4, 5, 6, 7, 8, 9], [])])
def spec_KidsOf.B4 : List Nat := [0, 0, 2, 0, 0, 24, 62, 126, 255, 511, 1023]
theorem spec_KidsOf.tab4 : rtab .any (opsOf Try.f20 4) = spec_KidsOf.T4 := by kernel_rfl
theorem spec_KidsOf.bits4 : waitsOk spec_KidsOf.T4.2 spec_KidsOf.B4 = true := by kernel_rfl
set_option maxHeartbeats 8000000 in
set_option maxRecDepth 100000 in
theorem spec_KidsOf.calls (k : Nat) (a0_0 : Int) (a0_1 : Int) (A0_2 : Option Addr) (c0_2 : Nat) (l0_2 : List (S88)) (a1 : Int) (r1 : List Int) (r2 : Int) (w : World) (hr0_2 : Kd.C k88 w A0_2 l0_2.length l0_2) (hc0_2 : l0_2.length ≤ c0_2) (h : spec_KidsOf.f k a0_0 a0_1 l0_2 a1 = some (r1, r2)) :
  Calls Try.prog 20 #[.agg #[.int .i64 a0_0, .int .i64 a0_1, .slice A0_2 l0_2.length c0_2], .int .i64 a1] w fun e w' => ∃ v0_ : Value, e = .returned (.tuple #[v0_, .int .i64 r2]) ∧ Kd.R (Kd.int .i64) 3 w' w.heap.size (fun _ => True) v0_ r1 ∧ Below w.heap.size w w' := by
 have hu29 := Try.underlying29
 have hu88 := Try.underlying88
 have HR0_2 := Aside0.mk hr0_2
 have HC0_2 := Aside0.mk hc0_2
 clear hr0_2 hc0_2
 have HB := Aside0.mk (Below.refl w.heap.size w)
 have H : ((spec_l02Ask.f k a0_0 a0_1 l0_2 a1).bind fun t206 => (if t206 = 0 then ((spec_l02At.f k a0_0 a0_1 l0_2 a1).bind fun t207 => (if 0 ≤ t207 then (if t207 < (l0_2.length : Int) then ((spec_l05Kids.f k a0_0 a0_1 l0_2 ((rd_T88 l0_2 t207).f0) ((rd_T88 l0_2 t207).f1) ((rd_T88 l0_2 t207).f2) ((rd_T88 l0_2 t207).f3) ((rd_T88 l0_2 t207).f4)).bind fun t209 => (some (t209, 0))) else (none)) else (none))) else (some ((([] : List Int)), t206)))) = some (r1, r2) := h
 clear h
 obtain ⟨t206, A3, H⟩ := Xbi H
 (try dsimp only at H)
 have HC4 := Aside0.mk H
 clear H
 go_enter Try.func20, Try.ntmps20
 go_upto_if 11 with (first | ((with_reducible refine gate_dst (N := 2) rfl ?_); refine Xbox 2 #[.int .i64 a0_0, .int .i64 a0_1, .slice A0_2 l0_2.length c0_2] 29 ?_; intro gb205 hg w5 hbox hb; have BK205 := Aside0.mk (hbox); have GE205 := Xge hg Xi; replace HB := Aside0.mk (below_step Xi hb); clear hb hbox hg; obtain ⟨hcz6_0, hcz6_1, hcz6_2⟩ := Xc3 BK205) | ((with_reducible refine gate_callee (f := 67) rfl ?_); refine Xgo 9 Try.func67 #[.agg #[.int .i64 a0_0, .int .i64 a0_1, .slice A0_2 l0_2.length c0_2], .int .i64 a1] ?_; (with_reducible refine (spec_l02Ask.calls k a0_0 a0_1 _ _ l0_2 a1 t206 _ ?side1 ?side2 A3.out).mono ?_); (case side1 => exact Xc HR0_2); (case side2 => exact HC0_2.out); rintro e w7 ⟨rfl, hb⟩; refine ⟨_, rfl, ?_⟩; replace BK205 := Xbb BK205 hb; replace HB := Aside0.mk (below_step Xi hb); clear hb))
 have H := HC4.out
 clear HC4
 obtain ⟨c8, H⟩ | ⟨c8, H⟩ := Xiu H
 ·have c8b0 : (t206 == 0) = true := beq_iff_eq.mpr c8
  have c8b1 : (t206 != 0) = false := bne_eq_false_iff_eq.mpr c8
  clear c8
  (first | rw [c8b0] | (simp only [i64_w, i32_w]; rw [c8b0]) | skip)
  obtain ⟨t207, A9, H⟩ := Xbi H
  (try dsimp only at H)
  obtain ⟨c10b0, H⟩ := Xid H
  obtain ⟨c11b0, H⟩ := Xid H
  obtain ⟨t209, A12, H⟩ := Xbi H
  (try dsimp only at H)
  simp only [Option.some.injEq, Prod.mk.injEq] at H
  obtain ⟨rfl, rfl⟩ := H
  try go_wp2_with (fail)
  replace BK205 := Aside0.mk (blk_drew BK205.out)
  replace HB := Aside0.mk (below_drew1 HB.out)
  have p208 : 0 ≤ (t207 : Int) := of_decide_eq_true Xa
  have q208 : t207 < (l0_2.length : Int) := of_decide_eq_true Xa
  obtain ⟨ad208, A208_4, c208_4, e208, hx208_0, hx208_1, hx208_2, hx208_3, hx208_4, hl208_4, hi208_4⟩ := at_T88 HR0_2.out t207 p208 q208
  have hw208_4 := hx208_4
  have hw208_3 := hx208_3
  have hw208_2 := hx208_2
  have hw208_1 := hx208_1
  have hw208_0 := hx208_0
  cases e208
  replace hx208_0 := Xm HB hx208_0
  replace hx208_1 := Xm HB hx208_1
  replace hx208_2 := Xm HB hx208_2
  replace hx208_3 := Xm HB hx208_3
  replace hx208_4 := Xm HB hx208_4
  have HR208_4 := Aside0.mk hi208_4
  have HC208_4 := Aside0.mk hl208_4
  clear hi208_4 hl208_4
  replace p208 := eq_true p208
  replace q208 := eq_true q208
  refine start_ (n := 11) (S := fun w' => w'.cell? ⟨gb205, 0, none⟩ = some (.int .i64 a0_0) ∧ w'.cell? ⟨gb205, 1, none⟩ = some (.int .i64 a0_1) ∧ w'.cell? ⟨gb205, 2, none⟩ = some (.slice (some ad208) l0_2.length c0_2) ∧ w'.cell? (ad208.add ((t207).toNat * 5)) = some (.int .i64 ((rd_T88 l0_2 t207).f0)) ∧ w'.cell? ⟨(ad208.add ((t207).toNat * 5)).block, (ad208.add ((t207).toNat * 5)).off + 1, none⟩ = some (.int .i64 ((rd_T88 l0_2 t207).f1)) ∧ w'.cell? ⟨(ad208.add ((t207).toNat * 5)).block, (ad208.add ((t207).toNat * 5)).off + 2, none⟩ = some (.int .i64 ((rd_T88 l0_2 t207).f2)) ∧ w'.cell? ⟨(ad208.add ((t207).toNat * 5)).block, (ad208.add ((t207).toNat * 5)).off + 3, none⟩ = some (.string ((rd_T88 l0_2 t207).f3)) ∧ w'.cell? ⟨(ad208.add ((t207).toNat * 5)).block, (ad208.add ((t207).toNat * 5)).off + 4, none⟩ = some (.slice A208_4 ((rd_T88 l0_2 t207).f4).length c208_4)) (ds := []) #[false, false, false, false, false, false, false, false, false, false, false] (by kernel_rfl) rfl rfl ⟨(blk_cell BK205.out 0).trans rfl, (blk_cell BK205.out 1).trans rfl, (blk_cell BK205.out 2).trans rfl, Xn hw208_0, Xn hw208_1, Xn hw208_2, Xn hw208_3, Xn hw208_4⟩ (fun hHeld => ?_); refine with_tabW spec_KidsOf.tab4 spec_KidsOf.bits4 (fun HT_ HW_ => ?_)
  generalize w7.drew = w13 at BK205 HB HR208_4 hx208_0 hx208_1 hx208_2 hx208_3 hx208_4 hHeld ⊢
  refine Xpu 1 15 (XW.bs 11 2) HT_.out ?_
  refine Xpu 4 18 (XW.bs 11 18) HT_.out ?_
  refine Xta 0 14 (XW.bs 11 19) HT_.out HW_.out hHeld ?_
  refine Xta 2 16 (XW.bs 11 23) HT_.out HW_.out hHeld ?_
  refine Xta 3 17 (XW.bs 11 31) HT_.out HW_.out hHeld ?_
  refine one_ (i := 5) (N := some 19) (XW.bs 11 63) rfl rfl (one_of HT_.out (by kernel_rfl)) (by decide) (fun K hK => ?_)
  refine goes_ Try.func69 (by kernel_rfl) rfl #[.agg #[.int .i64 a0_0, .int .i64 a0_1, .slice (some ad208) l0_2.length c0_2], .int .i64 a1] (by rfl) rfl rfl (by (try simp only [List.map_toArray, List.map_cons, List.map_nil]); first | done | rfl | (simp only [List.length_drop, List.length_take]; rfl)) ?_
  with_reducible refine (spec_l02At.calls k a0_0 a0_1 _ _ l0_2 a1 t207 _ ?side1 ?side2 A9.out).mono ?_
  (case side1 => exact Xc HR0_2)
  (case side2 => exact HC0_2.out)
  rintro e w14 ⟨rfl, hb⟩
  refine ⟨_, rfl, ?_⟩
  replace BK205 := Xbb BK205 hb
  replace HB := Aside0.mk (below_step Xi hb)
  (try clear hb)
  (try clear hb2)
  (try clear hk)
  (try clear hi)
  refine hK.out _ _ ⟨(blk_cell BK205.out 0).trans rfl, (blk_cell BK205.out 1).trans rfl, (blk_cell BK205.out 2).trans rfl, Xn hw208_0, Xn hw208_1, Xn hw208_2, Xn hw208_3, Xn hw208_4⟩ (fun hHeld => ?_)
  clear hK K
  refine Xno ?_
  refine Xpu 6 20 (XW.bs 11 127) HT_.out ?_
  refine Xta 7 21 (XW.bs 11 255) HT_.out HW_.out hHeld ?_
  refine one_ (i := 8) (N := some 22) (XW.bs 11 511) rfl rfl (one_of HT_.out (by kernel_rfl)) (by decide) (fun K hK => ?_)
  refine goes_ Try.func68 (by kernel_rfl) rfl #[.agg #[.int .i64 a0_0, .int .i64 a0_1, .slice (some ad208) l0_2.length c0_2], .agg #[.int .i64 ((rd_T88 l0_2 t207).f0), .int .i64 ((rd_T88 l0_2 t207).f1), .int .i64 ((rd_T88 l0_2 t207).f2), .string ((rd_T88 l0_2 t207).f3), .slice A208_4 ((rd_T88 l0_2 t207).f4).length c208_4]] (by rfl) rfl rfl (by (try simp only [List.map_toArray, List.map_cons, List.map_nil]); first | done | rfl | (simp only [List.length_drop, List.length_take]; rfl)) ?_
  with_reducible refine (spec_l05Kids.calls k a0_0 a0_1 _ _ l0_2 ((rd_T88 l0_2 t207).f0) ((rd_T88 l0_2 t207).f1) ((rd_T88 l0_2 t207).f2) ((rd_T88 l0_2 t207).f3) _ _ ((rd_T88 l0_2 t207).f4) t209 _ ?side1 ?side2 ?side3 ?side4 A12.out).mono ?_
  (case side1 => exact Xc HR0_2)
  (case side2 => exact HC0_2.out)
  (case side3 => exact Xc HR208_4)
  (case side4 => exact HC208_4.out)
  rintro e w15 ⟨v210, rfl, ho0, hb⟩
  refine ⟨_, rfl, ?_⟩
  have HO211 := Aside0.mk (Kd.R_lower ho0 (below_size Xi))
  replace BK205 := Xbb BK205 hb
  replace HB := Aside0.mk (below_step Xi hb)
  (try clear hb)
  (try clear hb2)
  (try clear hk)
  (try clear hi)
  (try clear ho0)
  refine hK.out _ _ ⟨(blk_cell BK205.out 0).trans rfl, (blk_cell BK205.out 1).trans rfl, (blk_cell BK205.out 2).trans rfl, Xn hw208_0, Xn hw208_1, Xn hw208_2, Xn hw208_3, Xn hw208_4⟩ (fun hHeld => ?_)
  clear hK K
  refine Xno ?_
  refine Xpu 9 4 (XW.bs 11 1023) HT_.out ?_
  refine Xpu 10 5 (XW.bs 11 2047) HT_.out ?_
  refine done_ (done_of HT_.out (by kernel_rfl)) ?_
  try go_wp2_with (fail)
  go_ret2
  exact ⟨_, Xe, Xq HO211, Xi⟩
 ·have c8b0 : (t206 == 0) = false := beq_eq_false_iff_ne.mpr c8
  have c8b1 : (t206 != 0) = true := bne_iff_ne.mpr c8
  (first | rw [c8b0] | (simp only [i64_w, i32_w]; rw [c8b0]) | skip)
  obtain ⟨y212, hy212⟩ : ∃ y_ : List Int, y_ = (([] : List Int)) := ⟨_, rfl⟩
  replace H : (some (y212, t206)) = some (r1, r2) := by first | (rw [hy212]; with_reducible exact H) | (have H2_ := (Option.bind_some _ _).symm.trans H; rw [hy212]; with_reducible exact H2_) | (have H2_ := (Option.bind_some _ _).symm.trans H; with_reducible exact H2_) | with_reducible exact H | (rw [hy212]; exact H) | exact H
  have Ny212 := Aside0.mk hy212
  clear hy212
  simp only [Option.some.injEq, Prod.mk.injEq] at H
  obtain ⟨rfl, rfl⟩ := H
  go_wp2_with (first | ((with_reducible refine gate_dst (N := 12) rfl ?_); refine Kd.R_lit (Kd.int .i64) _ 3 ?hg (N := 12) ?hd (xs := ([] : List Int)) (inner := []) (ok := fun _ => True) (okp := fun _ => True) ?hr ?hp (fun _ hk => hk) trivial (Below.refl _ _) (Nat.le_refl _) (by simp) ?_; (case hd => rfl); (case hg => rfl); (case hr => first | (go_simp; done) | (go_simp; rfl)); (case hp => exact (Reps.none _ _)); intro v213 w16 ho17 hb hg_ hnew_; clear hg_ hnew_; (first | rw [← Ny212.out] at ho17 | (simp only [Int.reduceToNat] at ho17; rw [← Ny212.out] at ho17)); have HO214 := Aside0.mk (Kd.R_lower ho17 (below_size Xi)); replace BK205 := Xbb BK205 hb; replace HB := Aside0.mk (below_step Xi hb); clear hb ho17))
  go_ret2
  exact ⟨_, Xe, Xq HO214, Xi⟩

/-! ### impl_within: function 60 -/
def impl_within.f (a0 : Int) (a1 : Int) (a2 : Int) : Option (Bool) := if a0 ≥ a1 then (some (decide (a0 ≤ a2))) else (some false)
set_option maxHeartbeats 8000000 in
set_option maxRecDepth 100000 in
theorem impl_within.calls (a0 : Int) (a1 : Int) (a2 : Int) (r : Bool) (w : World) (h : impl_within.f a0 a1 a2 = some r) :
  Calls Try.prog 60 #[.int .i64 a0, .int .i64 a1, .int .i64 a2] w fun e w' => e = .returned (.bool r) ∧ Drawn0 w w' := by
 have H : (if a0 ≥ a1 then (some (decide (a0 ≤ a2))) else (some false)) = some r := h
 clear h
 obtain ⟨c4, H⟩ | ⟨c4, H⟩ := Xiu H
 ·have c4b0 : decide (a1 ≤ a0) = true := decide_eq_true c4
  clear c4
  obtain rfl := Option.some.inj H
  go_enter Try.func60, Try.ntmps60
  go_wp2
  go_ret
  exact ⟨Xr, Xdr⟩
 ·have c4b0 : decide (a1 ≤ a0) = false := decide_eq_false c4
  clear c4
  obtain rfl := Option.some.inj H
  go_enter Try.func60, Try.ntmps60
  go_wp2
  go_ret
  exact ⟨Xr, Xdr⟩

/-! ### impl_Doc_find_1: function 167 -/
def impl_Doc_find_1.f (a0_0 : Int) (a0_1 : Int) (a0_2 : Int) (a0_3 : ByteArray) (l0_4 : List Int) (a1 : Int) : Option (Int) := some (wrap64 (a0_0 - a1))
set_option maxHeartbeats 8000000 in
set_option maxRecDepth 100000 in
theorem impl_Doc_find_1.calls (a0_0 : Int) (a0_1 : Int) (a0_2 : Int) (a0_3 : ByteArray) (A0_4 : Option Addr) (c0_4 : Nat) (l0_4 : List Int) (a1 : Int) (r : Int) (w : World) (hr0_4 : Kd.C (Kd.int .i64) w A0_4 l0_4.length l0_4) (hc0_4 : l0_4.length ≤ c0_4) (h : impl_Doc_find_1.f a0_0 a0_1 a0_2 a0_3 l0_4 a1 = some r) :
  Calls Try.prog 167 #[.agg #[.int .i64 a0_0, .int .i64 a0_1, .int .i64 a0_2, .string a0_3, .slice A0_4 l0_4.length c0_4], .int .i64 a1] w fun e w' => e = .returned (.int .i64 r) ∧ Below w.heap.size w w' := by
 have hu88 := Try.underlying88
 have HR0_4 := Aside0.mk hr0_4
 have HC0_4 := Aside0.mk hc0_4
 clear hr0_4 hc0_4
 have HB := Aside0.mk (Below.refl w.heap.size w)
 have H : (some (wrap64 (a0_0 - a1))) = some r := h
 clear h
 obtain rfl := Option.some.inj H
 go_enter Try.func167, Try.ntmps167
 go_wp2_with (first | ((with_reducible refine gate_dst (N := 2) rfl ?_); refine Xbox 2 #[.int .i64 a0_0, .int .i64 a0_1, .int .i64 a0_2, .string a0_3, .slice A0_4 l0_4.length c0_4] 88 ?_; intro gb216 hg w3 hbox hb; have BK216 := Aside0.mk (hbox); have GE216 := Xge hg Xi; replace HB := Aside0.mk (below_step Xi hb); clear hb hbox hg; obtain ⟨hcz4_0, hcz4_1, hcz4_2, hcz4_3, hcz4_4⟩ := Xc5 BK216))
 go_ret
 exact ⟨Xe, Xi⟩

/-! ### slices_BinarySearchFunc_impl_Node_impl_Node_int_at_impl_Doc_find_1: function 166 -/
def slices_BinarySearchFunc_impl_Node_impl_Node_int_at_impl_Doc_find_1.l0 : Nat → List (S88) → Int → Int → Int → Int → Option (Int × Bool)
 | 0, _, _, _, _, _ => none
 | k + 1, x0, x1, x8, x9, x10 => if x9 < x10 then (if 0 ≤ (wrap64 ((IntKind.u64.wrap (wrap64 (x9 + x10))) / 2)) then (if (wrap64 ((IntKind.u64.wrap (wrap64 (x9 + x10))) / 2)) < (x0.length : Int) then ((impl_Doc_find_1.f ((rd_T88 x0 (wrap64 ((IntKind.u64.wrap (wrap64 (x9 + x10))) / 2))).f0) ((rd_T88 x0 (wrap64 ((IntKind.u64.wrap (wrap64 (x9 + x10))) / 2))).f1) ((rd_T88 x0 (wrap64 ((IntKind.u64.wrap (wrap64 (x9 + x10))) / 2))).f2) ((rd_T88 x0 (wrap64 ((IntKind.u64.wrap (wrap64 (x9 + x10))) / 2))).f3) ((rd_T88 x0 (wrap64 ((IntKind.u64.wrap (wrap64 (x9 + x10))) / 2))).f4) x1).bind fun t218 => (if t218 < 0 then (slices_BinarySearchFunc_impl_Node_impl_Node_int_at_impl_Doc_find_1.l0 k x0 x1 x8 (wrap64 ((wrap64 ((IntKind.u64.wrap (wrap64 (x9 + x10))) / 2)) + 1)) x10) else (slices_BinarySearchFunc_impl_Node_impl_Node_int_at_impl_Doc_find_1.l0 k x0 x1 x8 x9 (wrap64 ((IntKind.u64.wrap (wrap64 (x9 + x10))) / 2))))) else (none)) else (none)) else (if x9 < x8 then (if 0 ≤ x9 then (if x9 < (x0.length : Int) then ((impl_Doc_find_1.f ((rd_T88 x0 x9).f0) ((rd_T88 x0 x9).f1) ((rd_T88 x0 x9).f2) ((rd_T88 x0 x9).f3) ((rd_T88 x0 x9).f4) x1).bind fun t220 => (some (x9, (t220 == 0)))) else (none)) else (none)) else (some (x9, false)))
def slices_BinarySearchFunc_impl_Node_impl_Node_int_at_impl_Doc_find_1.f (k : Nat) (l0 : List (S88)) (a1 : Int)  : Option (Int × Bool) := slices_BinarySearchFunc_impl_Node_impl_Node_int_at_impl_Doc_find_1.l0 k l0 a1 (l0.length : Int) 0 (l0.length : Int)
set_option maxHeartbeats 8000000 in
set_option maxRecDepth 100000 in
theorem slices_BinarySearchFunc_impl_Node_impl_Node_int_at_impl_Doc_find_1.calls (k : Nat) (A0 : Option Addr) (c0 : Nat) (l0 : List (S88)) (a1 : Int)  (r1 : Int) (r2 : Bool) (w : World) (hr0 : Kd.C k88 w A0 l0.length l0) (hc0 : l0.length ≤ c0) (h : slices_BinarySearchFunc_impl_Node_impl_Node_int_at_impl_Doc_find_1.f k l0 a1 = some (r1, r2)) :
  Calls Try.prog 166 #[.slice A0 l0.length c0, .int .i64 a1, .func (.func 167) #[] #[]] w fun e w' => e = .returned (.tuple #[.int .i64 r1, .bool r2]) ∧ Below w.heap.size w w' := by
 have hu88 := Try.underlying88
 have HR0 := Aside0.mk hr0
 have HC0 := Aside0.mk hc0
 clear hr0 hc0
 have HB := Aside0.mk (Below.refl w.heap.size w)
 have H : (slices_BinarySearchFunc_impl_Node_impl_Node_int_at_impl_Doc_find_1.l0 k l0 a1 (l0.length : Int) 0 (l0.length : Int)) = some (r1, r2) := h
 clear h
 have H' := Aside0.mk H
 clear H
 go_enter Try.func166, Try.ntmps166
 go_wp2
 go_loopg [9, 10] k (fun kq v9 v10 w' => ∃ (x9_1 : Int) (x10_1 : Int), v9 = .int .i64 x9_1 ∧ v10 = .int .i64 x10_1 ∧ Aside0 (slices_BinarySearchFunc_impl_Node_impl_Node_int_at_impl_Doc_find_1.l0 kq l0 a1 (l0.length : Int) x9_1 x10_1 = some (r1, r2)) ∧ Aside0 (kq ≤ k) ∧ Aside0 (Below w.heap.size w w'))
 case atStart => exact ⟨(0), ((l0.length : Int)), Xr, Xr, H', Xkr, ⟨Xi⟩⟩
 case round =>
  clear H'
  obtain ⟨x9_1, x10_1, rfl, rfl, HA, HK1, HB⟩ := hrel
  cases gk with
  | zero => cases HA.out
  | succ k1 =>
   have H := HA.out
   clear HA
   simp only [slices_BinarySearchFunc_impl_Node_impl_Node_int_at_impl_Doc_find_1.l0] at H
   obtain ⟨c4b0, H⟩ | ⟨c4b0, H⟩ := Xit H
   ·obtain ⟨ji5, hji5⟩ : ∃ j_ : Int, (wrap64 ((IntKind.u64.wrap (wrap64 (x9_1 + x10_1))) / 2)) = j_ := ⟨_, rfl⟩
    replace H : (if 0 ≤ (ji5) then (if (ji5) < (l0.length : Int) then ((impl_Doc_find_1.f ((rd_T88 l0 (ji5)).f0) ((rd_T88 l0 (ji5)).f1) ((rd_T88 l0 (ji5)).f2) ((rd_T88 l0 (ji5)).f3) ((rd_T88 l0 (ji5)).f4) a1).bind fun t218 => (if t218 < 0 then (slices_BinarySearchFunc_impl_Node_impl_Node_int_at_impl_Doc_find_1.l0 k1 l0 a1 (l0.length : Int) (wrap64 ((ji5) + 1)) x10_1) else (slices_BinarySearchFunc_impl_Node_impl_Node_int_at_impl_Doc_find_1.l0 k1 l0 a1 (l0.length : Int) x9_1 ji5))) else (none)) else (none)) = some (r1, r2) := by first | (rw [hji5] at H; exact H) | (simp only [hji5] at H ⊢; exact H)
    have hji5w : (IntKind.i64.wrap ((IntKind.u64.wrap (wrap64 (x9_1 + x10_1))) / 2)) = ji5 := (i64_w _).trans hji5
    obtain ⟨c6b0, H⟩ := Xid H
    obtain ⟨c7b0, H⟩ := Xid H
    obtain ⟨t218, A8, H⟩ := Xbi H
    (try dsimp only at H)
    have HC9 := Aside0.mk H
    clear H
    obtain ⟨ad217, A217_4, c217_4, e217, p217, q217, hx217_0, hx217_1, hx217_2, hx217_3, hx217_4, HC217_4, HR217_4⟩ := at_B88 HR0 (ji5) Xa Xa HB
    cases e217
    go_upto_if 31 with (first | (go_at_call 167; (with_reducible refine (impl_Doc_find_1.calls ((rd_T88 l0 (ji5)).f0) ((rd_T88 l0 (ji5)).f1) ((rd_T88 l0 (ji5)).f2) ((rd_T88 l0 (ji5)).f3) _ _ ((rd_T88 l0 (ji5)).f4) a1 t218 _ ?side1 ?side2 A8.out).mono ?_); (case side1 => exact Xc HR217_4); (case side2 => exact HC217_4.out); rintro e w10 ⟨rfl, hb⟩; replace HB := Aside0.mk (below_step Xi hb); clear hb))
    have H := HC9.out
    clear HC9
    obtain ⟨c11b0, H⟩ | ⟨c11b0, H⟩ := Xit H
    ·(first | rw [c11b0] | (simp only [i64_w, i32_w]; rw [c11b0]) | skip)
     have H' := Aside0.mk H
     clear H
     go_wp2
     go_roundg k1
     case measure => have := HK1.out; omega
     case rel => exact ⟨(wrap64 ((ji5) + 1)), (x10_1), (by first | rfl | (simp; done) | (simp only [← hji5] <;> (first | rfl | simp)) | (simp [*]; done)), Xr, H', Xk1, ⟨Xi⟩⟩
    ·(first | rw [c11b0] | (simp only [i64_w, i32_w]; rw [c11b0]) | skip)
     have H' := Aside0.mk H
     clear H
     go_wp2
     go_roundg k1
     case measure => have := HK1.out; omega
     case rel => exact ⟨(x9_1), (ji5), Xr, (by first | rfl | (simp; done) | (simp only [← hji5] <;> (first | rfl | simp)) | (simp [*]; done)), H', Xk1, ⟨Xi⟩⟩
   ·obtain ⟨c12b0, H⟩ | ⟨c12b0, H⟩ := Xit H
    ·obtain ⟨c13b0, H⟩ := Xid H
     obtain ⟨c14b0, H⟩ := Xid H
     obtain ⟨t220, A15, H⟩ := Xbi H
     (try dsimp only at H)
     simp only [Option.some.injEq, Prod.mk.injEq] at H
     obtain ⟨rfl, rfl⟩ := H
     obtain ⟨ad219, A219_4, c219_4, e219, p219, q219, hx219_0, hx219_1, hx219_2, hx219_3, hx219_4, HC219_4, HR219_4⟩ := at_B88 HR0 x9_1 Xa Xa HB
     cases e219
     go_wp2_with (first | (go_at_call 167; (with_reducible refine (impl_Doc_find_1.calls ((rd_T88 l0 x9_1).f0) ((rd_T88 l0 x9_1).f1) ((rd_T88 l0 x9_1).f2) ((rd_T88 l0 x9_1).f3) _ _ ((rd_T88 l0 x9_1).f4) a1 t220 _ ?side1 ?side2 A15.out).mono ?_); (case side1 => exact Xc HR219_4); (case side2 => exact HC219_4.out); rintro e w16 ⟨rfl, hb⟩; replace HB := Aside0.mk (below_step Xi hb); clear hb))
     go_ret2
     exact ⟨Xe, Xi⟩
    ·simp only [Option.some.injEq, Prod.mk.injEq] at H
     obtain ⟨rfl, rfl⟩ := H
     go_wp2
     go_ret2
     exact ⟨Xe, Xi⟩

end Go.Proofs.Ytfemohapampkiaa.XA
