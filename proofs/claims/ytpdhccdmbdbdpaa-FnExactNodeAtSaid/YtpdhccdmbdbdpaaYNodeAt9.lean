/- Contracts of the program's functions: each Go function that is named below comes to what its Lean function says. Written by xprint.py (a program of this session's, over the kit's print). Conditions: each contract's own premises. -/
import Derived.Test.YtpdhccdmbdbdpaaYNodeAt0
import Derived.Test.YtpdhccdmbdbdpaaYNodeAt5
import Derived.Test.YtpdhccdmbdbdpaaYNodeAt8
namespace Go.Proofs.Ytpdhccdmbdbdpaa.XA
open Go.RowKit Go.Proofs.YtpdhccdmbdbdpaaW.PrintWords Go.Proofs.YtpdhccdmbdbdpaaW.PrintLast Go.Proofs.YtpdhccdmbdbdpaaW.PrintMore XW
attribute [local go_sem] max2_int min2_int max_two min_two max_three min_three max_four min_four   -- for this text's walks alone
set_option linter.unusedVariables false
set_option linter.unusedSimpArgs false

/-! ### spec_NodeAt: function 32 -/
def spec_NodeAt.f (k : Nat) (a0_0 : Int) (a0_1 : Int) (l0_2 : List (S43)) (a1 : Int) : Option (Int × Int × Int × ByteArray × List Int × Int) := (spec_l02Ask.f k a0_0 a0_1 l0_2 a1).bind fun t273 => (if t273 = 0 then ((spec_l02At.f k a0_0 a0_1 l0_2 a1).bind fun t274 => (if 0 ≤ t274 then (if t274 < (l0_2.length : Int) then ((spec_l02OwnNode.f ((rd_T43 l0_2 t274).f0) ((rd_T43 l0_2 t274).f1) ((rd_T43 l0_2 t274).f2) ((rd_T43 l0_2 t274).f3) ((rd_T43 l0_2 t274).f4)).bind fun bt276 => (some (bt276.1, bt276.2.1, bt276.2.2.1, bt276.2.2.2.1, bt276.2.2.2.2, 0))) else (none)) else (none))) else (some (0, 0, 0, (⟨#[]⟩ : ByteArray), ([] : List Int), t273)))
def spec_NodeAt.T4 : Bool × List (List Nat × List Nat) := (true, [([], []), ([0], [0]), ([], []), ([], []), ([2, 3], [2, 3]), ([1, 4], [1, 4]), ([5], [5]), ([6, 4], [6]), ([7, 7, 0, 1, 2, 3, 4, 5, 6, 7], [7]), ([8, 0, 1, 2, 3, 4, 5, 6, 7, 8], [])])
def spec_NodeAt.B4 : List Nat := [0, 1, 0, 0, 12, 31, 63, 127, 255, 511]
theorem spec_NodeAt.tab4 : rtab .any (opsOf Try.f32 4) = spec_NodeAt.T4 := by kernel_rfl
theorem spec_NodeAt.bits4 : waitsOk spec_NodeAt.T4.2 spec_NodeAt.B4 = true := by kernel_rfl
set_option maxHeartbeats 8000000 in
set_option maxRecDepth 100000 in
theorem spec_NodeAt.calls (k : Nat) (a0_0 : Int) (a0_1 : Int) (A0_2 : Option Addr) (c0_2 : Nat) (l0_2 : List (S43)) (a1 : Int) (r1 : Int) (r2 : Int) (r3 : Int) (r4 : ByteArray) (r5 : List Int) (r6 : Int) (w : World) (hr0_2 : Kd.C k43 w A0_2 l0_2.length l0_2) (hc0_2 : l0_2.length ≤ c0_2) (h : spec_NodeAt.f k a0_0 a0_1 l0_2 a1 = some (r1, r2, r3, r4, r5, r6)) :
  Calls Try.prog 32 #[.agg #[.int .i64 a0_0, .int .i64 a0_1, .slice A0_2 l0_2.length c0_2], .int .i64 a1] w fun e w' => ∃ v4_ : Value, e = .returned (.tuple #[.agg #[.int .i64 r1, .int .i64 r2, .int .i64 r3, .string r4, v4_], .int .i64 r6]) ∧ Kd.R (Kd.int .i64) 3 w' w.heap.size (fun _ => True) v4_ r5 ∧ Below w.heap.size w w' := by
 have hu29 := Try.underlying29
 have hu43 := Try.underlying43
 have HR0_2 := Aside0.mk hr0_2
 have HC0_2 := Aside0.mk hc0_2
 clear hr0_2 hc0_2
 have HB := Aside0.mk (Below.refl w.heap.size w)
 have H : ((spec_l02Ask.f k a0_0 a0_1 l0_2 a1).bind fun t273 => (if t273 = 0 then ((spec_l02At.f k a0_0 a0_1 l0_2 a1).bind fun t274 => (if 0 ≤ t274 then (if t274 < (l0_2.length : Int) then ((spec_l02OwnNode.f ((rd_T43 l0_2 t274).f0) ((rd_T43 l0_2 t274).f1) ((rd_T43 l0_2 t274).f2) ((rd_T43 l0_2 t274).f3) ((rd_T43 l0_2 t274).f4)).bind fun bt276 => (some (bt276.1, bt276.2.1, bt276.2.2.1, bt276.2.2.2.1, bt276.2.2.2.2, 0))) else (none)) else (none))) else (some (0, 0, 0, (⟨#[]⟩ : ByteArray), ([] : List Int), t273)))) = some (r1, r2, r3, r4, r5, r6) := h
 clear h
 obtain ⟨t273, A3, H⟩ := Xbi H
 (try dsimp only at H)
 have HC4 := Aside0.mk H
 clear H
 go_enter Try.func32, Try.ntmps32
 go_upto_if 11 with (first | ((with_reducible refine gate_dst (N := 2) rfl ?_); refine Xbox 2 #[.int .i64 a0_0, .int .i64 a0_1, .slice A0_2 l0_2.length c0_2] 29 ?_; intro gb271 hg w5 hbox hb; have BK271 := Aside0.mk (hbox); have GE271 := Xge hg Xi; replace HB := Aside0.mk (below_step Xi hb); clear hb hbox hg) | ((with_reducible refine gate_dst (N := 4) rfl ?_); refine Xbox 4 #[.int .i64 0, .int .i64 0, .int .i64 0, .string (⟨#[]⟩ : ByteArray), .slice none 0 0] 43 ?_; intro gb272 hg w6 hbox hb; have BK272 := Aside0.mk (hbox); have GE272 := Xge hg Xi; have GW272 := GE272; replace HB := Aside0.mk (below_step Xi hb); have NB271_272 := Xnb hg BK271; have NB272_271 := Xns NB271_272; replace BK271 := Xbb BK271 hb; clear hb hbox hg; have hnb7 := NB271_272.out; have hnc7 := NB272_271.out; obtain ⟨hcz8_0, hcz8_1, hcz8_2⟩ := Xc3 BK271; obtain ⟨hfz8_0, hfz8_1, hfz8_2⟩ := Xf3 BK271) | ((with_reducible refine gate_callee (f := 56) rfl ?_); refine Xgo 9 Try.func56 #[.agg #[.int .i64 a0_0, .int .i64 a0_1, .slice A0_2 l0_2.length c0_2], .int .i64 a1] ?_; (with_reducible refine (spec_l02Ask.calls k a0_0 a0_1 _ _ l0_2 a1 t273 _ ?side1 ?side2 A3.out).mono ?_); (case side1 => exact Xc HR0_2); (case side2 => exact HC0_2.out); rintro e w9 ⟨rfl, hb⟩; refine ⟨_, rfl, ?_⟩; replace BK271 := Xbb BK271 hb; replace BK272 := Xbb BK272 hb; replace HB := Aside0.mk (below_step Xi hb); clear hb))
 have H := HC4.out
 clear HC4
 obtain ⟨c10, H⟩ | ⟨c10, H⟩ := Xiu H
 ·have c10b0 : (t273 == 0) = true := beq_iff_eq.mpr c10
  have c10b1 : (t273 != 0) = false := bne_eq_false_iff_eq.mpr c10
  clear c10
  (first | rw [c10b0] | (simp only [i64_w, i32_w]; rw [c10b0]) | skip)
  obtain ⟨t274, A11, H⟩ := Xbi H
  (try dsimp only at H)
  obtain ⟨c12b0, H⟩ := Xid H
  obtain ⟨c13b0, H⟩ := Xid H
  replace H := Option.bind_eq_some_iff.mp H
  obtain ⟨⟨t276, t277, t278, t279, t280⟩, A140, H⟩ := H
  (try dsimp only at H)
  have A14 := Aside0.mk A140
  clear A140
  simp only [Option.some.injEq, Prod.mk.injEq] at H
  obtain ⟨rfl, rfl, rfl, rfl, rfl, rfl⟩ := H
  try go_wp2_with (fail)
  replace BK271 := Aside0.mk (blk_drew BK271.out)
  replace BK272 := Aside0.mk (blk_drew BK272.out)
  replace HB := Aside0.mk (below_drew1 HB.out)
  have p275 : 0 ≤ (t274 : Int) := of_decide_eq_true Xa
  have q275 : t274 < (l0_2.length : Int) := of_decide_eq_true Xa
  obtain ⟨ad275, A275_4, c275_4, e275, hx275_0, hx275_1, hx275_2, hx275_3, hx275_4, hl275_4, hi275_4⟩ := at_T43 HR0_2.out t274 p275 q275
  have hw275_4 := hx275_4
  have hw275_3 := hx275_3
  have hw275_2 := hx275_2
  have hw275_1 := hx275_1
  have hw275_0 := hx275_0
  cases e275
  replace hx275_0 := Xm HB hx275_0
  replace hx275_1 := Xm HB hx275_1
  replace hx275_2 := Xm HB hx275_2
  replace hx275_3 := Xm HB hx275_3
  replace hx275_4 := Xm HB hx275_4
  have HR275_4 := Aside0.mk hi275_4
  have HC275_4 := Aside0.mk hl275_4
  clear hi275_4 hl275_4
  replace p275 := eq_true p275
  replace q275 := eq_true q275
  refine start_ (n := 10) (S := fun w' => w'.cell? ⟨gb271, 0, none⟩ = some (.int .i64 a0_0) ∧ w'.cell? ⟨gb271, 1, none⟩ = some (.int .i64 a0_1) ∧ w'.cell? ⟨gb271, 2, none⟩ = some (.slice (some ad275) l0_2.length c0_2) ∧ w'.cell? (ad275.add ((t274).toNat * 5)) = some (.int .i64 ((rd_T43 l0_2 t274).f0)) ∧ w'.cell? ⟨(ad275.add ((t274).toNat * 5)).block, (ad275.add ((t274).toNat * 5)).off + 1, none⟩ = some (.int .i64 ((rd_T43 l0_2 t274).f1)) ∧ w'.cell? ⟨(ad275.add ((t274).toNat * 5)).block, (ad275.add ((t274).toNat * 5)).off + 2, none⟩ = some (.int .i64 ((rd_T43 l0_2 t274).f2)) ∧ w'.cell? ⟨(ad275.add ((t274).toNat * 5)).block, (ad275.add ((t274).toNat * 5)).off + 3, none⟩ = some (.string ((rd_T43 l0_2 t274).f3)) ∧ w'.cell? ⟨(ad275.add ((t274).toNat * 5)).block, (ad275.add ((t274).toNat * 5)).off + 4, none⟩ = some (.slice A275_4 ((rd_T43 l0_2 t274).f4).length c275_4)) (ds := []) #[false, false, false, false, false, false, false, false, false, false] (by kernel_rfl) rfl rfl ⟨(blk_cell BK271.out 0).trans rfl, (blk_cell BK271.out 1).trans rfl, (blk_cell BK271.out 2).trans rfl, Xn hw275_0, Xn hw275_1, Xn hw275_2, Xn hw275_3, Xn hw275_4⟩ (fun hHeld => ?_); refine with_tabW spec_NodeAt.tab4 spec_NodeAt.bits4 (fun HT_ HW_ => ?_)
  generalize w9.drew = w15 at BK271 BK272 HB HR275_4 hx275_0 hx275_1 hx275_2 hx275_3 hx275_4 hHeld ⊢
  refine Xpu 0 14 (XW.bs 10 1) HT_.out ?_
  refine Xpu 3 17 (XW.bs 10 9) HT_.out ?_
  refine Xta 1 15 (XW.bs 10 11) HT_.out HW_.out hHeld ?_
  refine Xta 2 16 (XW.bs 10 15) HT_.out HW_.out hHeld ?_
  refine one_ (i := 4) (N := some 18) (XW.bs 10 31) rfl rfl (one_of HT_.out (by kernel_rfl)) (by decide) (fun K hK => ?_)
  refine goes_ Try.func74 (by kernel_rfl) rfl #[.agg #[.int .i64 a0_0, .int .i64 a0_1, .slice (some ad275) l0_2.length c0_2], .int .i64 a1] (by rfl) rfl rfl (by (try simp only [List.map_toArray, List.map_cons, List.map_nil]); first | done | rfl | (simp only [List.length_drop, List.length_take]; rfl)) ?_
  with_reducible refine (spec_l02At.calls k a0_0 a0_1 _ _ l0_2 a1 t274 _ ?side1 ?side2 A11.out).mono ?_
  (case side1 => exact Xc HR0_2)
  (case side2 => exact HC0_2.out)
  rintro e w16 ⟨rfl, hb⟩
  refine ⟨_, rfl, ?_⟩
  replace BK271 := Xbb BK271 hb
  replace BK272 := Xbb BK272 hb
  replace HB := Aside0.mk (below_step Xi hb)
  (try clear hb)
  (try clear hb2)
  (try clear hk)
  (try clear hi)
  refine hK.out _ _ ⟨(blk_cell BK271.out 0).trans rfl, (blk_cell BK271.out 1).trans rfl, (blk_cell BK271.out 2).trans rfl, Xn hw275_0, Xn hw275_1, Xn hw275_2, Xn hw275_3, Xn hw275_4⟩ (fun hHeld => ?_)
  clear hK K
  refine Xno ?_
  refine Xpu 5 19 (XW.bs 10 63) HT_.out ?_
  refine Xta 6 20 (XW.bs 10 127) HT_.out HW_.out hHeld ?_
  refine one_ (i := 7) (N := some 21) (XW.bs 10 255) rfl rfl (one_of HT_.out (by kernel_rfl)) (by decide) (fun K hK => ?_)
  refine goes_ Try.func73 (by kernel_rfl) rfl #[.agg #[.int .i64 ((rd_T43 l0_2 t274).f0), .int .i64 ((rd_T43 l0_2 t274).f1), .int .i64 ((rd_T43 l0_2 t274).f2), .string ((rd_T43 l0_2 t274).f3), .slice A275_4 ((rd_T43 l0_2 t274).f4).length c275_4]] (by rfl) rfl rfl (by (try simp only [List.map_toArray, List.map_cons, List.map_nil]); first | done | rfl | (simp only [List.length_drop, List.length_take]; rfl)) ?_
  with_reducible refine (spec_l02OwnNode.calls ((rd_T43 l0_2 t274).f0) ((rd_T43 l0_2 t274).f1) ((rd_T43 l0_2 t274).f2) ((rd_T43 l0_2 t274).f3) _ _ ((rd_T43 l0_2 t274).f4) t276 t277 t278 t279 t280 _ ?side1 ?side2 A14.out).mono ?_
  (case side1 => exact Xc HR275_4)
  (case side2 => exact HC275_4.out)
  rintro e w17 ⟨v281, rfl, ho0, hb⟩
  refine ⟨_, rfl, ?_⟩
  have HO282 := Aside0.mk (Kd.R_lower ho0 (below_size Xi))
  replace BK271 := Xbb BK271 hb
  replace BK272 := Xbb BK272 hb
  replace HB := Aside0.mk (below_step Xi hb)
  (try clear hb)
  (try clear hb2)
  (try clear hk)
  (try clear hi)
  (try clear ho0)
  obtain ⟨Ao22, co22, eo22⟩ := Kd.R_slice HO282.out
  (first | subst eo22 | (injection eo22 with f1_ f2_ f3_; have f4_ := f1_.symm; have f5_ := f3_.symm; clear f1_ f2_ f3_; subst f4_; subst f5_))
  refine hK.out _ _ ⟨(blk_cell BK271.out 0).trans rfl, (blk_cell BK271.out 1).trans rfl, (blk_cell BK271.out 2).trans rfl, Xn hw275_0, Xn hw275_1, Xn hw275_2, Xn hw275_3, Xn hw275_4⟩ (fun hHeld => ?_)
  clear hK K
  refine Xno ?_
  refine one_ (i := 8) (N := none) (XW.bs 10 511) rfl rfl (one_of HT_.out (by kernel_rfl)) (by decide) (fun K hK => ?_)
  have hs18 : w17.cell? ⟨gb272, 0, none⟩ = some (.int .i64 0) := (blk_cell BK272.out 0).trans rfl
  have hfs18 := blk_frozen BK272.out 0
  have hns18_0 := NB271_272.out
  have hms18_0 := NB272_271.out
  have hs19 : w17.cell? ⟨gb272, 1, none⟩ = some (.int .i64 0) := (blk_cell BK272.out 1).trans rfl
  have hfs19 := blk_frozen BK272.out 1
  have hns19_0 := NB271_272.out
  have hms19_0 := NB272_271.out
  have hs20 : w17.cell? ⟨gb272, 2, none⟩ = some (.int .i64 0) := (blk_cell BK272.out 2).trans rfl
  have hfs20 := blk_frozen BK272.out 2
  have hns20_0 := NB271_272.out
  have hms20_0 := NB272_271.out
  have hs21 : w17.cell? ⟨gb272, 3, none⟩ = some (.string (⟨#[]⟩ : ByteArray)) := (blk_cell BK272.out 3).trans rfl
  have hfs21 := blk_frozen BK272.out 3
  have hns21_0 := NB271_272.out
  have hms21_0 := NB272_271.out
  have hs23 : w17.cell? ⟨gb272, 4, none⟩ = some (.slice none 0 0) := (blk_cell BK272.out 4).trans rfl
  have hfs23 := blk_frozen BK272.out 4
  have hns23_0 := NB271_272.out
  have hms23_0 := NB272_271.out
  refine skip_ (w1 := ?_) (by rfl) rfl ?_ ?_
  rotate_left
  ·go_simp
   rfl
  refine hK.out _ _ ⟨((cell_far (p := ⟨gb272, _, none⟩) NB271_272.out _).trans (((cell_far (p := ⟨gb272, _, none⟩) NB271_272.out _).trans (((cell_far (p := ⟨gb272, _, none⟩) NB271_272.out _).trans (((cell_far (p := ⟨gb272, _, none⟩) NB271_272.out _).trans (((cell_far (p := ⟨gb272, _, none⟩) NB271_272.out _).trans (hHeld.1)))))))))), ((cell_far (p := ⟨gb272, _, none⟩) NB271_272.out _).trans (((cell_far (p := ⟨gb272, _, none⟩) NB271_272.out _).trans (((cell_far (p := ⟨gb272, _, none⟩) NB271_272.out _).trans (((cell_far (p := ⟨gb272, _, none⟩) NB271_272.out _).trans (((cell_far (p := ⟨gb272, _, none⟩) NB271_272.out _).trans (hHeld.2.1)))))))))), ((cell_far (p := ⟨gb272, _, none⟩) NB271_272.out _).trans (((cell_far (p := ⟨gb272, _, none⟩) NB271_272.out _).trans (((cell_far (p := ⟨gb272, _, none⟩) NB271_272.out _).trans (((cell_far (p := ⟨gb272, _, none⟩) NB271_272.out _).trans (((cell_far (p := ⟨gb272, _, none⟩) NB271_272.out _).trans (hHeld.2.2.1)))))))))), ((cell_far (p := ⟨gb272, _, none⟩) (by first | exact Nat.ne_of_lt (Nat.lt_of_lt_of_le (by have := World.block_lt_of_cell? _ _ hw275_0; first | rwa [add_block] at this | exact this) GW272.out) | (rw [add_block]; exact Nat.ne_of_lt (Nat.lt_of_lt_of_le (by have := World.block_lt_of_cell? _ _ hw275_0; first | rwa [add_block] at this | exact this) GW272.out)) | (show (Addr.add _ _).block ≠ _; rw [add_block]; exact Nat.ne_of_lt (Nat.lt_of_lt_of_le (by have := World.block_lt_of_cell? _ _ hw275_0; first | rwa [add_block] at this | exact this) GW272.out)) | (dsimp only; exact Nat.ne_of_lt (Nat.lt_of_lt_of_le (by have := World.block_lt_of_cell? _ _ hw275_0; first | rwa [add_block] at this | exact this) GW272.out))) _).trans (((cell_far (p := ⟨gb272, _, none⟩) (by first | exact Nat.ne_of_lt (Nat.lt_of_lt_of_le (by have := World.block_lt_of_cell? _ _ hw275_0; first | rwa [add_block] at this | exact this) GW272.out) | (rw [add_block]; exact Nat.ne_of_lt (Nat.lt_of_lt_of_le (by have := World.block_lt_of_cell? _ _ hw275_0; first | rwa [add_block] at this | exact this) GW272.out)) | (show (Addr.add _ _).block ≠ _; rw [add_block]; exact Nat.ne_of_lt (Nat.lt_of_lt_of_le (by have := World.block_lt_of_cell? _ _ hw275_0; first | rwa [add_block] at this | exact this) GW272.out)) | (dsimp only; exact Nat.ne_of_lt (Nat.lt_of_lt_of_le (by have := World.block_lt_of_cell? _ _ hw275_0; first | rwa [add_block] at this | exact this) GW272.out))) _).trans (((cell_far (p := ⟨gb272, _, none⟩) (by first | exact Nat.ne_of_lt (Nat.lt_of_lt_of_le (by have := World.block_lt_of_cell? _ _ hw275_0; first | rwa [add_block] at this | exact this) GW272.out) | (rw [add_block]; exact Nat.ne_of_lt (Nat.lt_of_lt_of_le (by have := World.block_lt_of_cell? _ _ hw275_0; first | rwa [add_block] at this | exact this) GW272.out)) | (show (Addr.add _ _).block ≠ _; rw [add_block]; exact Nat.ne_of_lt (Nat.lt_of_lt_of_le (by have := World.block_lt_of_cell? _ _ hw275_0; first | rwa [add_block] at this | exact this) GW272.out)) | (dsimp only; exact Nat.ne_of_lt (Nat.lt_of_lt_of_le (by have := World.block_lt_of_cell? _ _ hw275_0; first | rwa [add_block] at this | exact this) GW272.out))) _).trans (((cell_far (p := ⟨gb272, _, none⟩) (by first | exact Nat.ne_of_lt (Nat.lt_of_lt_of_le (by have := World.block_lt_of_cell? _ _ hw275_0; first | rwa [add_block] at this | exact this) GW272.out) | (rw [add_block]; exact Nat.ne_of_lt (Nat.lt_of_lt_of_le (by have := World.block_lt_of_cell? _ _ hw275_0; first | rwa [add_block] at this | exact this) GW272.out)) | (show (Addr.add _ _).block ≠ _; rw [add_block]; exact Nat.ne_of_lt (Nat.lt_of_lt_of_le (by have := World.block_lt_of_cell? _ _ hw275_0; first | rwa [add_block] at this | exact this) GW272.out)) | (dsimp only; exact Nat.ne_of_lt (Nat.lt_of_lt_of_le (by have := World.block_lt_of_cell? _ _ hw275_0; first | rwa [add_block] at this | exact this) GW272.out))) _).trans (((cell_far (p := ⟨gb272, _, none⟩) (by first | exact Nat.ne_of_lt (Nat.lt_of_lt_of_le (by have := World.block_lt_of_cell? _ _ hw275_0; first | rwa [add_block] at this | exact this) GW272.out) | (rw [add_block]; exact Nat.ne_of_lt (Nat.lt_of_lt_of_le (by have := World.block_lt_of_cell? _ _ hw275_0; first | rwa [add_block] at this | exact this) GW272.out)) | (show (Addr.add _ _).block ≠ _; rw [add_block]; exact Nat.ne_of_lt (Nat.lt_of_lt_of_le (by have := World.block_lt_of_cell? _ _ hw275_0; first | rwa [add_block] at this | exact this) GW272.out)) | (dsimp only; exact Nat.ne_of_lt (Nat.lt_of_lt_of_le (by have := World.block_lt_of_cell? _ _ hw275_0; first | rwa [add_block] at this | exact this) GW272.out))) _).trans (hHeld.2.2.2.1)))))))))), ((cell_far (p := ⟨gb272, _, none⟩) (by first | exact Nat.ne_of_lt (Nat.lt_of_lt_of_le (by have := World.block_lt_of_cell? _ _ hw275_1; first | rwa [add_block] at this | exact this) GW272.out) | (rw [add_block]; exact Nat.ne_of_lt (Nat.lt_of_lt_of_le (by have := World.block_lt_of_cell? _ _ hw275_1; first | rwa [add_block] at this | exact this) GW272.out)) | (show (Addr.add _ _).block ≠ _; rw [add_block]; exact Nat.ne_of_lt (Nat.lt_of_lt_of_le (by have := World.block_lt_of_cell? _ _ hw275_1; first | rwa [add_block] at this | exact this) GW272.out)) | (dsimp only; exact Nat.ne_of_lt (Nat.lt_of_lt_of_le (by have := World.block_lt_of_cell? _ _ hw275_1; first | rwa [add_block] at this | exact this) GW272.out))) _).trans (((cell_far (p := ⟨gb272, _, none⟩) (by first | exact Nat.ne_of_lt (Nat.lt_of_lt_of_le (by have := World.block_lt_of_cell? _ _ hw275_1; first | rwa [add_block] at this | exact this) GW272.out) | (rw [add_block]; exact Nat.ne_of_lt (Nat.lt_of_lt_of_le (by have := World.block_lt_of_cell? _ _ hw275_1; first | rwa [add_block] at this | exact this) GW272.out)) | (show (Addr.add _ _).block ≠ _; rw [add_block]; exact Nat.ne_of_lt (Nat.lt_of_lt_of_le (by have := World.block_lt_of_cell? _ _ hw275_1; first | rwa [add_block] at this | exact this) GW272.out)) | (dsimp only; exact Nat.ne_of_lt (Nat.lt_of_lt_of_le (by have := World.block_lt_of_cell? _ _ hw275_1; first | rwa [add_block] at this | exact this) GW272.out))) _).trans (((cell_far (p := ⟨gb272, _, none⟩) (by first | exact Nat.ne_of_lt (Nat.lt_of_lt_of_le (by have := World.block_lt_of_cell? _ _ hw275_1; first | rwa [add_block] at this | exact this) GW272.out) | (rw [add_block]; exact Nat.ne_of_lt (Nat.lt_of_lt_of_le (by have := World.block_lt_of_cell? _ _ hw275_1; first | rwa [add_block] at this | exact this) GW272.out)) | (show (Addr.add _ _).block ≠ _; rw [add_block]; exact Nat.ne_of_lt (Nat.lt_of_lt_of_le (by have := World.block_lt_of_cell? _ _ hw275_1; first | rwa [add_block] at this | exact this) GW272.out)) | (dsimp only; exact Nat.ne_of_lt (Nat.lt_of_lt_of_le (by have := World.block_lt_of_cell? _ _ hw275_1; first | rwa [add_block] at this | exact this) GW272.out))) _).trans (((cell_far (p := ⟨gb272, _, none⟩) (by first | exact Nat.ne_of_lt (Nat.lt_of_lt_of_le (by have := World.block_lt_of_cell? _ _ hw275_1; first | rwa [add_block] at this | exact this) GW272.out) | (rw [add_block]; exact Nat.ne_of_lt (Nat.lt_of_lt_of_le (by have := World.block_lt_of_cell? _ _ hw275_1; first | rwa [add_block] at this | exact this) GW272.out)) | (show (Addr.add _ _).block ≠ _; rw [add_block]; exact Nat.ne_of_lt (Nat.lt_of_lt_of_le (by have := World.block_lt_of_cell? _ _ hw275_1; first | rwa [add_block] at this | exact this) GW272.out)) | (dsimp only; exact Nat.ne_of_lt (Nat.lt_of_lt_of_le (by have := World.block_lt_of_cell? _ _ hw275_1; first | rwa [add_block] at this | exact this) GW272.out))) _).trans (((cell_far (p := ⟨gb272, _, none⟩) (by first | exact Nat.ne_of_lt (Nat.lt_of_lt_of_le (by have := World.block_lt_of_cell? _ _ hw275_1; first | rwa [add_block] at this | exact this) GW272.out) | (rw [add_block]; exact Nat.ne_of_lt (Nat.lt_of_lt_of_le (by have := World.block_lt_of_cell? _ _ hw275_1; first | rwa [add_block] at this | exact this) GW272.out)) | (show (Addr.add _ _).block ≠ _; rw [add_block]; exact Nat.ne_of_lt (Nat.lt_of_lt_of_le (by have := World.block_lt_of_cell? _ _ hw275_1; first | rwa [add_block] at this | exact this) GW272.out)) | (dsimp only; exact Nat.ne_of_lt (Nat.lt_of_lt_of_le (by have := World.block_lt_of_cell? _ _ hw275_1; first | rwa [add_block] at this | exact this) GW272.out))) _).trans (hHeld.2.2.2.2.1)))))))))), ((cell_far (p := ⟨gb272, _, none⟩) (by first | exact Nat.ne_of_lt (Nat.lt_of_lt_of_le (by have := World.block_lt_of_cell? _ _ hw275_2; first | rwa [add_block] at this | exact this) GW272.out) | (rw [add_block]; exact Nat.ne_of_lt (Nat.lt_of_lt_of_le (by have := World.block_lt_of_cell? _ _ hw275_2; first | rwa [add_block] at this | exact this) GW272.out)) | (show (Addr.add _ _).block ≠ _; rw [add_block]; exact Nat.ne_of_lt (Nat.lt_of_lt_of_le (by have := World.block_lt_of_cell? _ _ hw275_2; first | rwa [add_block] at this | exact this) GW272.out)) | (dsimp only; exact Nat.ne_of_lt (Nat.lt_of_lt_of_le (by have := World.block_lt_of_cell? _ _ hw275_2; first | rwa [add_block] at this | exact this) GW272.out))) _).trans (((cell_far (p := ⟨gb272, _, none⟩) (by first | exact Nat.ne_of_lt (Nat.lt_of_lt_of_le (by have := World.block_lt_of_cell? _ _ hw275_2; first | rwa [add_block] at this | exact this) GW272.out) | (rw [add_block]; exact Nat.ne_of_lt (Nat.lt_of_lt_of_le (by have := World.block_lt_of_cell? _ _ hw275_2; first | rwa [add_block] at this | exact this) GW272.out)) | (show (Addr.add _ _).block ≠ _; rw [add_block]; exact Nat.ne_of_lt (Nat.lt_of_lt_of_le (by have := World.block_lt_of_cell? _ _ hw275_2; first | rwa [add_block] at this | exact this) GW272.out)) | (dsimp only; exact Nat.ne_of_lt (Nat.lt_of_lt_of_le (by have := World.block_lt_of_cell? _ _ hw275_2; first | rwa [add_block] at this | exact this) GW272.out))) _).trans (((cell_far (p := ⟨gb272, _, none⟩) (by first | exact Nat.ne_of_lt (Nat.lt_of_lt_of_le (by have := World.block_lt_of_cell? _ _ hw275_2; first | rwa [add_block] at this | exact this) GW272.out) | (rw [add_block]; exact Nat.ne_of_lt (Nat.lt_of_lt_of_le (by have := World.block_lt_of_cell? _ _ hw275_2; first | rwa [add_block] at this | exact this) GW272.out)) | (show (Addr.add _ _).block ≠ _; rw [add_block]; exact Nat.ne_of_lt (Nat.lt_of_lt_of_le (by have := World.block_lt_of_cell? _ _ hw275_2; first | rwa [add_block] at this | exact this) GW272.out)) | (dsimp only; exact Nat.ne_of_lt (Nat.lt_of_lt_of_le (by have := World.block_lt_of_cell? _ _ hw275_2; first | rwa [add_block] at this | exact this) GW272.out))) _).trans (((cell_far (p := ⟨gb272, _, none⟩) (by first | exact Nat.ne_of_lt (Nat.lt_of_lt_of_le (by have := World.block_lt_of_cell? _ _ hw275_2; first | rwa [add_block] at this | exact this) GW272.out) | (rw [add_block]; exact Nat.ne_of_lt (Nat.lt_of_lt_of_le (by have := World.block_lt_of_cell? _ _ hw275_2; first | rwa [add_block] at this | exact this) GW272.out)) | (show (Addr.add _ _).block ≠ _; rw [add_block]; exact Nat.ne_of_lt (Nat.lt_of_lt_of_le (by have := World.block_lt_of_cell? _ _ hw275_2; first | rwa [add_block] at this | exact this) GW272.out)) | (dsimp only; exact Nat.ne_of_lt (Nat.lt_of_lt_of_le (by have := World.block_lt_of_cell? _ _ hw275_2; first | rwa [add_block] at this | exact this) GW272.out))) _).trans (((cell_far (p := ⟨gb272, _, none⟩) (by first | exact Nat.ne_of_lt (Nat.lt_of_lt_of_le (by have := World.block_lt_of_cell? _ _ hw275_2; first | rwa [add_block] at this | exact this) GW272.out) | (rw [add_block]; exact Nat.ne_of_lt (Nat.lt_of_lt_of_le (by have := World.block_lt_of_cell? _ _ hw275_2; first | rwa [add_block] at this | exact this) GW272.out)) | (show (Addr.add _ _).block ≠ _; rw [add_block]; exact Nat.ne_of_lt (Nat.lt_of_lt_of_le (by have := World.block_lt_of_cell? _ _ hw275_2; first | rwa [add_block] at this | exact this) GW272.out)) | (dsimp only; exact Nat.ne_of_lt (Nat.lt_of_lt_of_le (by have := World.block_lt_of_cell? _ _ hw275_2; first | rwa [add_block] at this | exact this) GW272.out))) _).trans (hHeld.2.2.2.2.2.1)))))))))), ((cell_far (p := ⟨gb272, _, none⟩) (by first | exact Nat.ne_of_lt (Nat.lt_of_lt_of_le (by have := World.block_lt_of_cell? _ _ hw275_3; first | rwa [add_block] at this | exact this) GW272.out) | (rw [add_block]; exact Nat.ne_of_lt (Nat.lt_of_lt_of_le (by have := World.block_lt_of_cell? _ _ hw275_3; first | rwa [add_block] at this | exact this) GW272.out)) | (show (Addr.add _ _).block ≠ _; rw [add_block]; exact Nat.ne_of_lt (Nat.lt_of_lt_of_le (by have := World.block_lt_of_cell? _ _ hw275_3; first | rwa [add_block] at this | exact this) GW272.out)) | (dsimp only; exact Nat.ne_of_lt (Nat.lt_of_lt_of_le (by have := World.block_lt_of_cell? _ _ hw275_3; first | rwa [add_block] at this | exact this) GW272.out))) _).trans (((cell_far (p := ⟨gb272, _, none⟩) (by first | exact Nat.ne_of_lt (Nat.lt_of_lt_of_le (by have := World.block_lt_of_cell? _ _ hw275_3; first | rwa [add_block] at this | exact this) GW272.out) | (rw [add_block]; exact Nat.ne_of_lt (Nat.lt_of_lt_of_le (by have := World.block_lt_of_cell? _ _ hw275_3; first | rwa [add_block] at this | exact this) GW272.out)) | (show (Addr.add _ _).block ≠ _; rw [add_block]; exact Nat.ne_of_lt (Nat.lt_of_lt_of_le (by have := World.block_lt_of_cell? _ _ hw275_3; first | rwa [add_block] at this | exact this) GW272.out)) | (dsimp only; exact Nat.ne_of_lt (Nat.lt_of_lt_of_le (by have := World.block_lt_of_cell? _ _ hw275_3; first | rwa [add_block] at this | exact this) GW272.out))) _).trans (((cell_far (p := ⟨gb272, _, none⟩) (by first | exact Nat.ne_of_lt (Nat.lt_of_lt_of_le (by have := World.block_lt_of_cell? _ _ hw275_3; first | rwa [add_block] at this | exact this) GW272.out) | (rw [add_block]; exact Nat.ne_of_lt (Nat.lt_of_lt_of_le (by have := World.block_lt_of_cell? _ _ hw275_3; first | rwa [add_block] at this | exact this) GW272.out)) | (show (Addr.add _ _).block ≠ _; rw [add_block]; exact Nat.ne_of_lt (Nat.lt_of_lt_of_le (by have := World.block_lt_of_cell? _ _ hw275_3; first | rwa [add_block] at this | exact this) GW272.out)) | (dsimp only; exact Nat.ne_of_lt (Nat.lt_of_lt_of_le (by have := World.block_lt_of_cell? _ _ hw275_3; first | rwa [add_block] at this | exact this) GW272.out))) _).trans (((cell_far (p := ⟨gb272, _, none⟩) (by first | exact Nat.ne_of_lt (Nat.lt_of_lt_of_le (by have := World.block_lt_of_cell? _ _ hw275_3; first | rwa [add_block] at this | exact this) GW272.out) | (rw [add_block]; exact Nat.ne_of_lt (Nat.lt_of_lt_of_le (by have := World.block_lt_of_cell? _ _ hw275_3; first | rwa [add_block] at this | exact this) GW272.out)) | (show (Addr.add _ _).block ≠ _; rw [add_block]; exact Nat.ne_of_lt (Nat.lt_of_lt_of_le (by have := World.block_lt_of_cell? _ _ hw275_3; first | rwa [add_block] at this | exact this) GW272.out)) | (dsimp only; exact Nat.ne_of_lt (Nat.lt_of_lt_of_le (by have := World.block_lt_of_cell? _ _ hw275_3; first | rwa [add_block] at this | exact this) GW272.out))) _).trans (((cell_far (p := ⟨gb272, _, none⟩) (by first | exact Nat.ne_of_lt (Nat.lt_of_lt_of_le (by have := World.block_lt_of_cell? _ _ hw275_3; first | rwa [add_block] at this | exact this) GW272.out) | (rw [add_block]; exact Nat.ne_of_lt (Nat.lt_of_lt_of_le (by have := World.block_lt_of_cell? _ _ hw275_3; first | rwa [add_block] at this | exact this) GW272.out)) | (show (Addr.add _ _).block ≠ _; rw [add_block]; exact Nat.ne_of_lt (Nat.lt_of_lt_of_le (by have := World.block_lt_of_cell? _ _ hw275_3; first | rwa [add_block] at this | exact this) GW272.out)) | (dsimp only; exact Nat.ne_of_lt (Nat.lt_of_lt_of_le (by have := World.block_lt_of_cell? _ _ hw275_3; first | rwa [add_block] at this | exact this) GW272.out))) _).trans (hHeld.2.2.2.2.2.2.1)))))))))), ((cell_far (p := ⟨gb272, _, none⟩) (by first | exact Nat.ne_of_lt (Nat.lt_of_lt_of_le (by have := World.block_lt_of_cell? _ _ hw275_4; first | rwa [add_block] at this | exact this) GW272.out) | (rw [add_block]; exact Nat.ne_of_lt (Nat.lt_of_lt_of_le (by have := World.block_lt_of_cell? _ _ hw275_4; first | rwa [add_block] at this | exact this) GW272.out)) | (show (Addr.add _ _).block ≠ _; rw [add_block]; exact Nat.ne_of_lt (Nat.lt_of_lt_of_le (by have := World.block_lt_of_cell? _ _ hw275_4; first | rwa [add_block] at this | exact this) GW272.out)) | (dsimp only; exact Nat.ne_of_lt (Nat.lt_of_lt_of_le (by have := World.block_lt_of_cell? _ _ hw275_4; first | rwa [add_block] at this | exact this) GW272.out))) _).trans (((cell_far (p := ⟨gb272, _, none⟩) (by first | exact Nat.ne_of_lt (Nat.lt_of_lt_of_le (by have := World.block_lt_of_cell? _ _ hw275_4; first | rwa [add_block] at this | exact this) GW272.out) | (rw [add_block]; exact Nat.ne_of_lt (Nat.lt_of_lt_of_le (by have := World.block_lt_of_cell? _ _ hw275_4; first | rwa [add_block] at this | exact this) GW272.out)) | (show (Addr.add _ _).block ≠ _; rw [add_block]; exact Nat.ne_of_lt (Nat.lt_of_lt_of_le (by have := World.block_lt_of_cell? _ _ hw275_4; first | rwa [add_block] at this | exact this) GW272.out)) | (dsimp only; exact Nat.ne_of_lt (Nat.lt_of_lt_of_le (by have := World.block_lt_of_cell? _ _ hw275_4; first | rwa [add_block] at this | exact this) GW272.out))) _).trans (((cell_far (p := ⟨gb272, _, none⟩) (by first | exact Nat.ne_of_lt (Nat.lt_of_lt_of_le (by have := World.block_lt_of_cell? _ _ hw275_4; first | rwa [add_block] at this | exact this) GW272.out) | (rw [add_block]; exact Nat.ne_of_lt (Nat.lt_of_lt_of_le (by have := World.block_lt_of_cell? _ _ hw275_4; first | rwa [add_block] at this | exact this) GW272.out)) | (show (Addr.add _ _).block ≠ _; rw [add_block]; exact Nat.ne_of_lt (Nat.lt_of_lt_of_le (by have := World.block_lt_of_cell? _ _ hw275_4; first | rwa [add_block] at this | exact this) GW272.out)) | (dsimp only; exact Nat.ne_of_lt (Nat.lt_of_lt_of_le (by have := World.block_lt_of_cell? _ _ hw275_4; first | rwa [add_block] at this | exact this) GW272.out))) _).trans (((cell_far (p := ⟨gb272, _, none⟩) (by first | exact Nat.ne_of_lt (Nat.lt_of_lt_of_le (by have := World.block_lt_of_cell? _ _ hw275_4; first | rwa [add_block] at this | exact this) GW272.out) | (rw [add_block]; exact Nat.ne_of_lt (Nat.lt_of_lt_of_le (by have := World.block_lt_of_cell? _ _ hw275_4; first | rwa [add_block] at this | exact this) GW272.out)) | (show (Addr.add _ _).block ≠ _; rw [add_block]; exact Nat.ne_of_lt (Nat.lt_of_lt_of_le (by have := World.block_lt_of_cell? _ _ hw275_4; first | rwa [add_block] at this | exact this) GW272.out)) | (dsimp only; exact Nat.ne_of_lt (Nat.lt_of_lt_of_le (by have := World.block_lt_of_cell? _ _ hw275_4; first | rwa [add_block] at this | exact this) GW272.out))) _).trans (((cell_far (p := ⟨gb272, _, none⟩) (by first | exact Nat.ne_of_lt (Nat.lt_of_lt_of_le (by have := World.block_lt_of_cell? _ _ hw275_4; first | rwa [add_block] at this | exact this) GW272.out) | (rw [add_block]; exact Nat.ne_of_lt (Nat.lt_of_lt_of_le (by have := World.block_lt_of_cell? _ _ hw275_4; first | rwa [add_block] at this | exact this) GW272.out)) | (show (Addr.add _ _).block ≠ _; rw [add_block]; exact Nat.ne_of_lt (Nat.lt_of_lt_of_le (by have := World.block_lt_of_cell? _ _ hw275_4; first | rwa [add_block] at this | exact this) GW272.out)) | (dsimp only; exact Nat.ne_of_lt (Nat.lt_of_lt_of_le (by have := World.block_lt_of_cell? _ _ hw275_4; first | rwa [add_block] at this | exact this) GW272.out))) _).trans (hHeld.2.2.2.2.2.2.2))))))))))⟩ (fun hHeld => ?_)
  clear hK K
  refine Xpu 9 5 (XW.bs 10 1023) HT_.out ?_
  refine done_ (done_of HT_.out (by kernel_rfl)) ?_
  try go_wp2_with (fail)
  refine bodyPost_ret (results_ct rfl _ _ gb272 43 #[.int .i64 t276, .int .i64 t277, .int .i64 t278, .string t279, .slice Ao22 t280.length co22] (0, 0) _ rfl (by (with_reducible repeat (first | refine blk_drewN ?_ _ | refine blk_drew ?_ | refine blk_alloc ?_ _)); refine blk_put (cs := #[.int .i64 t276, .int .i64 t277, .int .i64 t278, .string t279, .slice none 0 0]) ?_ 4 _ rfl; (with_reducible repeat (first | refine blk_drewN ?_ _ | refine blk_drew ?_ | refine blk_alloc ?_ _)); refine blk_put (cs := #[.int .i64 t276, .int .i64 t277, .int .i64 t278, .string (⟨#[]⟩ : ByteArray), .slice none 0 0]) ?_ 3 _ rfl; (with_reducible repeat (first | refine blk_drewN ?_ _ | refine blk_drew ?_ | refine blk_alloc ?_ _)); refine blk_put (cs := #[.int .i64 t276, .int .i64 t277, .int .i64 0, .string (⟨#[]⟩ : ByteArray), .slice none 0 0]) ?_ 2 _ rfl; (with_reducible repeat (first | refine blk_drewN ?_ _ | refine blk_drew ?_ | refine blk_alloc ?_ _)); refine blk_put (cs := #[.int .i64 t276, .int .i64 0, .int .i64 0, .string (⟨#[]⟩ : ByteArray), .slice none 0 0]) ?_ 1 _ rfl; (with_reducible repeat (first | refine blk_drewN ?_ _ | refine blk_drew ?_ | refine blk_alloc ?_ _)); refine blk_put (cs := #[.int .i64 0, .int .i64 0, .int .i64 0, .string (⟨#[]⟩ : ByteArray), .slice none 0 0]) ?_ 0 _ rfl; (with_reducible repeat (first | refine blk_drewN ?_ _ | refine blk_drew ?_ | refine blk_alloc ?_ _)); exact BK272.out) Try.underlying43 rfl (by kernel_rfl)) rfl ?_
  exact ⟨_, Xe, by (with_reducible repeat (first | apply Kd.R_alloc | apply Kd.R_drewN | apply Kd.R_drew)); exact Kd.R_mono (Kd.R_far (p := ⟨gb272, 4, none⟩) (Kd.R_far (p := ⟨gb272, 3, none⟩) (Kd.R_far (p := ⟨gb272, 2, none⟩) (Kd.R_far (p := ⟨gb272, 1, none⟩) (Kd.R_far (p := ⟨gb272, 0, none⟩) (Kd.R_types HO282.out BK272.out (by decide)) (fun _ hk => hk.2) (.int .i64 t276)) (fun _ hk => hk.2) (.int .i64 t277)) (fun _ hk => hk.2) (.int .i64 t278)) (fun _ hk => hk.2) (.string t279)) (fun _ hk => hk.2) (.slice Ao22 t280.length co22)) (fun _ hk => trivial), Xi⟩
 ·have c10b0 : (t273 == 0) = false := beq_eq_false_iff_ne.mpr c10
  have c10b1 : (t273 != 0) = true := bne_iff_ne.mpr c10
  (first | rw [c10b0] | (simp only [i64_w, i32_w]; rw [c10b0]) | skip)
  simp only [Option.some.injEq, Prod.mk.injEq] at H
  obtain ⟨rfl, rfl, rfl, rfl, rfl, rfl⟩ := H
  have hnb24 := NB272_271.out
  have hnc24 := NB271_272.out
  obtain ⟨hcz25_0, hcz25_1, hcz25_2, hcz25_3, hcz25_4⟩ := Xc5 BK272
  obtain ⟨hfz25_0, hfz25_1, hfz25_2, hfz25_3, hfz25_4⟩ := Xf5 BK272
  go_wp2_with (first | ((with_reducible refine gate_store (t := 43) (p := 4) rfl ?_); refine store_event (t := 43) (p := 4) (v := ?vo_w26) (w1 := (((((w9.setCell ⟨gb272, 0, none⟩ (.int .i64 0)).setCell ⟨gb272, 1, none⟩ (.int .i64 0)).setCell ⟨gb272, 2, none⟩ (.int .i64 0)).setCell ⟨gb272, 3, none⟩ (.string (⟨#[]⟩ : ByteArray))).setCell ⟨gb272, 4, none⟩ (.slice none 0 0))) ?hg ?ho ?hn ?hr ?_; (case ho => rfl); (case hg => rfl); (case hn => rfl); (case hr => first | (go_simp; done) | (go_simp; rfl)); intro w26 hw; have n0_ : Aside0 (w26.heap[gb271]? = some (.cells #[.int .i64 a0_0, .int .i64 a0_1, .slice A0_2 l0_2.length c0_2] 29 (0, 0))) := ⟨(by rw [hw]; exact (by (with_reducible repeat (first | refine blk_drewN ?_ _ | refine blk_drew ?_ | refine blk_alloc ?_ _)); refine blk_far ?_ NB271_272.out _; (with_reducible repeat (first | refine blk_drewN ?_ _ | refine blk_drew ?_ | refine blk_alloc ?_ _)); refine blk_far ?_ NB271_272.out _; (with_reducible repeat (first | refine blk_drewN ?_ _ | refine blk_drew ?_ | refine blk_alloc ?_ _)); refine blk_far ?_ NB271_272.out _; (with_reducible repeat (first | refine blk_drewN ?_ _ | refine blk_drew ?_ | refine blk_alloc ?_ _)); refine blk_far ?_ NB271_272.out _; (with_reducible repeat (first | refine blk_drewN ?_ _ | refine blk_drew ?_ | refine blk_alloc ?_ _)); refine blk_far ?_ NB271_272.out _; (with_reducible repeat (first | refine blk_drewN ?_ _ | refine blk_drew ?_ | refine blk_alloc ?_ _)); exact BK271.out))⟩; have n1_ : Aside0 (w26.heap[gb272]? = some (.cells #[.int .i64 0, .int .i64 0, .int .i64 0, .string (⟨#[]⟩ : ByteArray), .slice none 0 0] 43 (0, 0))) := ⟨(by rw [hw]; exact (by (with_reducible repeat (first | refine blk_drewN ?_ _ | refine blk_drew ?_ | refine blk_alloc ?_ _)); refine blk_put (cs := #[.int .i64 0, .int .i64 0, .int .i64 0, .string (⟨#[]⟩ : ByteArray), .slice none 0 0]) ?_ 4 _ rfl; (with_reducible repeat (first | refine blk_drewN ?_ _ | refine blk_drew ?_ | refine blk_alloc ?_ _)); refine blk_put (cs := #[.int .i64 0, .int .i64 0, .int .i64 0, .string (⟨#[]⟩ : ByteArray), .slice none 0 0]) ?_ 3 _ rfl; (with_reducible repeat (first | refine blk_drewN ?_ _ | refine blk_drew ?_ | refine blk_alloc ?_ _)); refine blk_put (cs := #[.int .i64 0, .int .i64 0, .int .i64 0, .string (⟨#[]⟩ : ByteArray), .slice none 0 0]) ?_ 2 _ rfl; (with_reducible repeat (first | refine blk_drewN ?_ _ | refine blk_drew ?_ | refine blk_alloc ?_ _)); refine blk_put (cs := #[.int .i64 0, .int .i64 0, .int .i64 0, .string (⟨#[]⟩ : ByteArray), .slice none 0 0]) ?_ 1 _ rfl; (with_reducible repeat (first | refine blk_drewN ?_ _ | refine blk_drew ?_ | refine blk_alloc ?_ _)); refine blk_put (cs := #[.int .i64 0, .int .i64 0, .int .i64 0, .string (⟨#[]⟩ : ByteArray), .slice none 0 0]) ?_ 0 _ rfl; (with_reducible repeat (first | refine blk_drewN ?_ _ | refine blk_drew ?_ | refine blk_alloc ?_ _)); exact BK272.out))⟩; have n2_ : Aside0 (Below w.heap.size w w26) := ⟨(by rw [hw]; exact Xi)⟩; clear hw; clear BK271; clear BK272; clear HB; have BK271 := n0_; have BK272 := n1_; have HB := n2_; clear n0_ n1_ n2_))
  refine bodyPost_ret (results_ct rfl _ _ gb272 43 #[.int .i64 0, .int .i64 0, .int .i64 0, .string (⟨#[]⟩ : ByteArray), .slice none 0 0] (0, 0) _ rfl BK272.out Try.underlying43 rfl (by kernel_rfl)) rfl ?_
  exact ⟨_, Xe, by first | exact Kd.R_nil _ _ _ _ _ | exact Kd.N_nil _ _ _ _ _ | exact Kd.V_nil _ _ _ _ _ | exact Kd.Q_nil _ _ _ _ _ | exact Kd.S_nil _ _ _ _ _, Xi⟩

/-! ### laws_markNode: function 34 -/
def laws_markNode.f (k : Nat) (a0_0 : Int) (a0_1 : Int) (a0_2 : Int) (a0_3 : ByteArray) (l0_4 : List Int) (a1 : Int) : Option (Int × List Int) := (laws_markIntS.f k l0_4 a1).bind fun bt284 => (some (bt284.1, bt284.2))
set_option maxHeartbeats 8000000 in
set_option maxRecDepth 100000 in
theorem laws_markNode.calls (k : Nat) (a0_0 : Int) (a0_1 : Int) (a0_2 : Int) (a0_3 : ByteArray) (P0_4_ : Nat → Prop) (u9000_ : Value) (l0_4 : List Int) (a1 : Int) (r1 : Int) (r2 : List Int) (w0 w : World) (hB : Below w0.heap.size w0 w) (ho0_4 : Kd.R (Kd.int .i64) 3 w w0.heap.size P0_4_ u9000_ l0_4) (h : laws_markNode.f k a0_0 a0_1 a0_2 a0_3 l0_4 a1 = some (r1, r2)) :
  Calls Try.prog 34 #[.agg #[.int .i64 a0_0, .int .i64 a0_1, .int .i64 a0_2, .string a0_3, u9000_], .int .i64 a1] w fun e w' => e = .returned (.int .i64 r1) ∧ Kd.R (Kd.int .i64) 3 w' w0.heap.size (fun k_ => (P0_4_ k_ ∨ w.heap.size ≤ k_)) u9000_ r2 ∧ Below w0.heap.size w0 w' ∧ Kept w w' (fun k_ => P0_4_ k_) := by
 have hu43 := Try.underlying43
 have HO0_4 := Aside0.mk (show Kd.R (Kd.int .i64) 3 w w0.heap.size (fun k_ => (P0_4_ k_ ∨ w.heap.size ≤ k_)) u9000_ l0_4 from Kd.R_mono ho0_4 (fun k_ hk => (.inl hk)))
 have HK := Aside0.mk (Kept.refl w (fun k_ => P0_4_ k_))
 have HW0 := Aside0.mk hB.size
 have HB := Aside0.mk hB
 clear hB
 have H : ((laws_markIntS.f k l0_4 a1).bind fun bt284 => (some (bt284.1, bt284.2))) = some (r1, r2) := h
 clear h
 replace H := Option.bind_eq_some_iff.mp H
 obtain ⟨⟨t284, t285⟩, A30, H⟩ := H
 (try dsimp only at H)
 have A3 := Aside0.mk A30
 clear A30
 simp only [Option.some.injEq, Prod.mk.injEq] at H
 obtain ⟨rfl, rfl⟩ := H
 obtain ⟨Ao4, co4, eo4⟩ := Kd.R_slice HO0_4.out
 subst eo4
 go_enter Try.func34, Try.ntmps34
 go_wp2_with (first | ((with_reducible refine gate_dst (N := 2) rfl ?_); refine Xbox 2 #[.int .i64 a0_0, .int .i64 a0_1, .int .i64 a0_2, .string a0_3, .slice Ao4 l0_4.length co4] 43 ?_; intro gb283 hg w5 hbox hb; replace HO0_4 := Aside0.mk (Kd.R_below (Xq HO0_4) hb); have BK283 := Aside0.mk (hbox); have GW283 := Aside0.mk ((by rw [hg]; exact (by first | exact HK.out.1 | exact (show Kept w _ (fun k_ => P0_4_ k_) from by repeat first | (with_reducible first | exact HK.out | apply Kept.drewN | apply Kept.drew) | exact HK.out).1) : w.heap.size ≤ gb283)); replace HK := Aside0.mk (Kept.below (S := (fun k_ => P0_4_ k_)) (by repeat first | (with_reducible first | exact HK.out | apply Kept.drewN | apply Kept.drew) | exact HK.out) hb); have GE283 := Aside0.mk ((by rw [hg]; exact (below_size Xi) : w0.heap.size ≤ gb283)); replace HB := Aside0.mk (below_step Xi hb); clear hb hbox hg; obtain ⟨hcz6_0, hcz6_1, hcz6_2, hcz6_3, hcz6_4⟩ := Xc5 BK283) | ((with_reducible refine gate_callee (f := 30) rfl ?_); refine Xgo 8 Try.func30 #[.slice Ao4 l0_4.length co4, .int .i64 a1] ?_; (with_reducible refine (laws_markIntS.calls k (fun k_ => some k_ = (.slice Ao4 l0_4.length co4 : Value).ownBlock) (.slice Ao4 l0_4.length co4) l0_4 a1 t284 t285 w0 _ ?side1 ?side2 A3.out).mono ?_); (case side1 => exact Xi); (case side2 => exact Kd.R_tight rfl HO0_4.out); rintro e w7 ⟨rfl, hy0, hb, hkp⟩; refine ⟨_, rfl, ?_⟩; replace BK283 := Aside0.mk (blk_kept BK283.out hkp (fun hs_ => (fun e_ => (Kd.R_ne HO0_4.out BK283.out (by decide)) e_) hs_)); replace HK := Aside0.mk (Kept.then_ (S := (fun k_ => P0_4_ k_)) (by repeat first | (with_reducible first | exact HK.out | apply Kept.drewN | apply Kept.drew | refine Kept.setCell ?_ (.inr GW283.out) _) | exact HK.out) hkp (fun k_ hs_ => (fun e_ => (HO0_4.out.1 k_ e_.symm)) hs_)); replace HO0_4 := Aside0.mk (Kd.R_reok rfl hy0 (fun k_ e_ => HO0_4.out.1 k_ e_)); replace HB := Aside0.mk (hb); (try clear hb); (try clear hkp); (try clear hy0)))
 go_ret
 exact ⟨Xe, Xq HO0_4, Xi, by repeat first | (with_reducible first | exact HK.out | apply Kept.drewN | apply Kept.drew | refine Kept.setCell ?_ (.inr GW283.out) _) | exact HK.out⟩

/-! ### laws_heldIntS: function 31 -/
def laws_heldIntS.l0 : Nat → List Int → Int → Int → Option (Int)
 | 0, _, _, _ => none
 | k + 1, x0, x1, x5 => if x5 < (x0.length : Int) then (if 0 ≤ x5 then (if (rd x0 x5) = x1 then (laws_heldIntS.l0 k x0 (wrap64 (x1 + 1)) (wrap64 (x5 + 1))) else (some (-1))) else (none)) else (some x1)
def laws_heldIntS.f (k : Nat) (l0 : List Int) (a1 : Int) : Option (Int) := laws_heldIntS.l0 k l0 a1 0
set_option maxHeartbeats 8000000 in
set_option maxRecDepth 100000 in
theorem laws_heldIntS.calls (k : Nat) (A0 : Option Addr) (c0 : Nat) (l0 : List Int) (a1 : Int) (r : Int) (w : World) (hr0 : Kd.C (Kd.int .i64) w A0 l0.length l0) (hc0 : l0.length ≤ c0) (h : laws_heldIntS.f k l0 a1 = some r) :
  Calls Try.prog 31 #[.slice A0 l0.length c0, .int .i64 a1] w fun e w' => e = .returned (.int .i64 r) ∧ Drawn0 w w' := by
 have HR0 := Aside0.mk hr0
 have HC0 := Aside0.mk hc0
 clear hr0 hc0
 have H : (laws_heldIntS.l0 k l0 a1 0) = some r := h
 clear h
 have H' := Aside0.mk H
 clear H
 go_enter Try.func31, Try.ntmps31
 go_wp2
 go_loopg [1, 5] k (fun kq v1 v5 w' => ∃ (x1_1 : Int) (x5_1 : Int), v1 = .int .i64 x1_1 ∧ v5 = .int .i64 x5_1 ∧ Aside0 (laws_heldIntS.l0 kq l0 x1_1 x5_1 = some r) ∧ Aside0 (kq ≤ k) ∧ Drawn0 w w')
 case atStart => exact ⟨(a1), (0), Xr, Xr, H', Xkr, by repeat (first | exact Drawn0.refl _ | apply Drawn0.step)⟩
 case round =>
  clear H'
  obtain ⟨x1_1, x5_1, rfl, rfl, HA, HK1, ⟨m1, rfl⟩⟩ := hrel
  cases gk with
  | zero => cases HA.out
  | succ k1 =>
   have H := HA.out
   clear HA
   simp only [laws_heldIntS.l0] at H
   obtain ⟨c3b0, H⟩ | ⟨c3b0, H⟩ := Xit H
   ·obtain ⟨c4b0, H⟩ := Xid H
    obtain ⟨c5, H⟩ | ⟨c5, H⟩ := Xiu H
    ·have c5b0 : ((rd l0 x5_1) == x1_1) = true := beq_iff_eq.mpr c5
     have c5b1 : ((rd l0 x5_1) != x1_1) = false := bne_eq_false_iff_eq.mpr c5
     clear c5
     have H' := Aside0.mk H
     clear H
     have p286 : 0 ≤ (x5_1 : Int) := of_decide_eq_true Xa
     have q286 : x5_1 < (l0.length : Int) := of_decide_eq_true Xa
     obtain ⟨ad286, e286, hx286_0⟩ := Kd.at_int HR0.out x5_1 p286 q286
     cases e286
     replace p286 := eq_true p286
     replace q286 := eq_true q286
     go_wp2
     go_roundg k1
     case measure => have := HK1.out; omega
     case rel => exact ⟨(wrap64 (x1_1 + 1)), (wrap64 (x5_1 + 1)), Xr, Xr, H', Xk1, by repeat (first | exact Drawn0.refl _ | apply Drawn0.step)⟩
    ·have c5b0 : ((rd l0 x5_1) == x1_1) = false := beq_eq_false_iff_ne.mpr c5
     have c5b1 : ((rd l0 x5_1) != x1_1) = true := bne_iff_ne.mpr c5
     obtain rfl := Option.some.inj H
     have p286 : 0 ≤ (x5_1 : Int) := of_decide_eq_true Xa
     have q286 : x5_1 < (l0.length : Int) := of_decide_eq_true Xa
     obtain ⟨ad286, e286, hx286_0⟩ := Kd.at_int HR0.out x5_1 p286 q286
     cases e286
     replace p286 := eq_true p286
     replace q286 := eq_true q286
     go_wp2
     go_ret
     exact ⟨Xr, Xdr⟩
   ·obtain rfl := Option.some.inj H
    go_wp2
    go_ret
    exact ⟨Xr, Xdr⟩

/-! ### laws_heldNode: function 35 -/
def laws_heldNode.f (k : Nat) (a0_0 : Int) (a0_1 : Int) (a0_2 : Int) (a0_3 : ByteArray) (l0_4 : List Int) (a1 : Int) : Option (Int) := (laws_heldIntS.f k l0_4 a1).bind fun t288 => (if t288 < 0 then (some (-1)) else (some t288))
set_option maxHeartbeats 8000000 in
set_option maxRecDepth 100000 in
theorem laws_heldNode.calls (k : Nat) (a0_0 : Int) (a0_1 : Int) (a0_2 : Int) (a0_3 : ByteArray) (A0_4 : Option Addr) (c0_4 : Nat) (l0_4 : List Int) (a1 : Int) (r : Int) (w : World) (hr0_4 : Kd.C (Kd.int .i64) w A0_4 l0_4.length l0_4) (hc0_4 : l0_4.length ≤ c0_4) (h : laws_heldNode.f k a0_0 a0_1 a0_2 a0_3 l0_4 a1 = some r) :
  Calls Try.prog 35 #[.agg #[.int .i64 a0_0, .int .i64 a0_1, .int .i64 a0_2, .string a0_3, .slice A0_4 l0_4.length c0_4], .int .i64 a1] w fun e w' => e = .returned (.int .i64 r) ∧ Below w.heap.size w w' := by
 have hu43 := Try.underlying43
 have HR0_4 := Aside0.mk hr0_4
 have HC0_4 := Aside0.mk hc0_4
 clear hr0_4 hc0_4
 have HB := Aside0.mk (Below.refl w.heap.size w)
 have H : ((laws_heldIntS.f k l0_4 a1).bind fun t288 => (if t288 < 0 then (some (-1)) else (some t288))) = some r := h
 clear h
 obtain ⟨t288, A3, H⟩ := Xbi H
 (try dsimp only at H)
 have HC4 := Aside0.mk H
 clear H
 go_enter Try.func35, Try.ntmps35
 go_upto_if 10 with (first | ((with_reducible refine gate_dst (N := 2) rfl ?_); refine Xbox 2 #[.int .i64 a0_0, .int .i64 a0_1, .int .i64 a0_2, .string a0_3, .slice A0_4 l0_4.length c0_4] 43 ?_; intro gb287 hg w5 hbox hb; have BK287 := Aside0.mk (hbox); have GE287 := Xge hg Xi; replace HB := Aside0.mk (below_step Xi hb); clear hb hbox hg; obtain ⟨hcz6_0, hcz6_1, hcz6_2, hcz6_3, hcz6_4⟩ := Xc5 BK287) | ((with_reducible refine gate_callee (f := 31) rfl ?_); refine Xgo 8 Try.func31 #[.slice A0_4 l0_4.length c0_4, .int .i64 a1] ?_; (with_reducible refine (laws_heldIntS.calls k _ _ l0_4 a1 t288 _ ?side1 ?side2 A3.out).mono ?_); (case side1 => exact Xc HR0_4); (case side2 => exact HC0_4.out); rintro e w' ⟨rfl, ⟨nd, rfl⟩⟩; refine ⟨_, rfl, ?_⟩))
 have H := HC4.out
 clear HC4
 obtain ⟨c7b0, H⟩ | ⟨c7b0, H⟩ := Xit H
 ·(first | rw [c7b0] | (simp only [i64_w, i32_w]; rw [c7b0]) | skip)
  obtain rfl := Option.some.inj H
  go_wp2
  go_ret
  exact ⟨Xe, Xi⟩
 ·(first | rw [c7b0] | (simp only [i64_w, i32_w]; rw [c7b0]) | skip)
  obtain rfl := Option.some.inj H
  go_wp2
  go_ret
  exact ⟨Xe, Xi⟩

end Go.Proofs.Ytpdhccdmbdbdpaa.XA
