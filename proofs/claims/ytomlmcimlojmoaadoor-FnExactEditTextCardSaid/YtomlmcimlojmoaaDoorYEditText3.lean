/- Contracts of the program's functions: each Go function that is named below comes to what its Lean function says. Written by xprint.py (a program of this session's, over the kit's print). Conditions: each contract's own premises. -/
import Derived.Test.YtomlmcimlojmoaaDoorYEditText0
import Derived.Test.YtomlmcimlojmoaaDoorYEditText1
import Derived.Test.YtomlmcimlojmoaaDoorYEditText2
namespace Go.Proofs.YtomlmcimlojmoaaDoor.XA
open Go.RowKit Go.Proofs.YtomlmcimlojmoaaDoorW.PrintWords Go.Proofs.YtomlmcimlojmoaaDoorW.PrintLast Go.Proofs.YtomlmcimlojmoaaDoorW.PrintMore XW
attribute [local go_sem] max2_int min2_int max_two min_two max_three min_three max_four min_four   -- for this text's walks alone
set_option linter.unusedVariables false
set_option linter.unusedSimpArgs false

/-! ### spec_l06Text: function 36 -/
def spec_l06Text.l0 : Nat → ByteArray → List Int → Int → Int → Int → Int → Int → ByteArray → Option (ByteArray)
 | 0, _, _, _, _, _, _, _, _ => none
 | k + 1, x3, x4, x5, x138000, x138001, x138002, x138003, x138004 => (spec_l06Many.f x138000).bind fun t146 => (if x5 < t146 then (if 0 ≤ x5 then (if x5 < (x4.length : Int) then ((spec_l00Digits.f k (rd x4 x5)).bind fun t148 => (if 1 + t148.size ≤ 9223372036854775807 then (if x3.size + ((⟨#[32]⟩ : ByteArray) ++ t148).size ≤ 9223372036854775807 then (spec_l06Text.l0 k (x3 ++ ((⟨#[32]⟩ : ByteArray) ++ t148)) x4 (wrap64 (x5 + 1)) x138000 x138001 x138002 x138003 x138004) else (none)) else (none))) else (none)) else (none)) else (if x138000 = 3 then ((spec_l06Quote.f k x138004).bind fun t149 => (if 1 + t149.size ≤ 9223372036854775807 then (if x3.size + ((⟨#[32]⟩ : ByteArray) ++ t149).size ≤ 9223372036854775807 then (some (x3 ++ ((⟨#[32]⟩ : ByteArray) ++ t149))) else (none)) else (none))) else (some x3)))
def spec_l06Text.f (k : Nat) (a0_0 : Int) (a0_1 : Int) (a0_2 : Int) (a0_3 : Int) (a0_4 : ByteArray) : Option (ByteArray) := (spec_l06Words.f).bind fun t138 => (if 0 ≤ (wrap64 (a0_0 - 1)) then (if (wrap64 (a0_0 - 1)) < (t138.length : Int) then (if (rdOf ByteArray.empty t138 (wrap64 (a0_0 - 1))).size + 1 ≤ 9223372036854775807 then ((spec_l00Digits.f k a0_1).bind fun t142 => (if ((rdOf ByteArray.empty t138 (wrap64 (a0_0 - 1))) ++ (⟨#[32]⟩ : ByteArray)).size + t142.size ≤ 9223372036854775807 then (spec_l06Text.l0 k (((rdOf ByteArray.empty t138 (wrap64 (a0_0 - 1))) ++ (⟨#[32]⟩ : ByteArray)) ++ t142) (([a0_2, a0_3] : List Int)) 0 a0_0 a0_1 a0_2 a0_3 a0_4) else (none))) else (none)) else (none)) else (none))
def spec_l06Text.T1 : Bool × List (List Nat × List Nat) := (true, [([], []), ([], []), ([1], [1]), ([2], [2]), ([0, 3], [0, 3]), ([4], [4]), ([5], [5]), ([], []), ([7], [7]), ([8, 0], [8]), ([6, 9], [6, 9]), ([10, 9, 0, 1, 2, 3, 4, 5, 6, 7, 8, 9, 10], [10])])
def spec_l06Text.B1 : List Nat := [0, 0, 2, 6, 15, 31, 63, 0, 128, 385, 1023, 2047]
theorem spec_l06Text.tab1 : rtab .any (opsOf Tryd.f36 1) = spec_l06Text.T1 := by kernel_rfl
theorem spec_l06Text.bits1 : waitsOk spec_l06Text.T1.2 spec_l06Text.B1 = true := by kernel_rfl
set_option maxHeartbeats 8000000 in
set_option maxRecDepth 100000 in
theorem spec_l06Text.calls (k : Nat) (a0_0 : Int) (a0_1 : Int) (a0_2 : Int) (a0_3 : Int) (a0_4 : ByteArray) (r : ByteArray) (w : World) (h : spec_l06Text.f k a0_0 a0_1 a0_2 a0_3 a0_4 = some r) :
  Calls Tryd.prog 36 #[.agg #[.int .i64 a0_0, .int .i64 a0_1, .int .i64 a0_2, .int .i64 a0_3, .string a0_4]] w fun e w' => e = .returned (.string r) ∧ Below w.heap.size w w' := by
 have hu27 := Tryd.underlying27
 have HB := Aside0.mk (Below.refl w.heap.size w)
 have H : ((spec_l06Words.f).bind fun t138 => (if 0 ≤ (wrap64 (a0_0 - 1)) then (if (wrap64 (a0_0 - 1)) < (t138.length : Int) then (if (rdOf ByteArray.empty t138 (wrap64 (a0_0 - 1))).size + 1 ≤ 9223372036854775807 then ((spec_l00Digits.f k a0_1).bind fun t142 => (if ((rdOf ByteArray.empty t138 (wrap64 (a0_0 - 1))) ++ (⟨#[32]⟩ : ByteArray)).size + t142.size ≤ 9223372036854775807 then (spec_l06Text.l0 k (((rdOf ByteArray.empty t138 (wrap64 (a0_0 - 1))) ++ (⟨#[32]⟩ : ByteArray)) ++ t142) (([a0_2, a0_3] : List Int)) 0 a0_0 a0_1 a0_2 a0_3 a0_4) else (none))) else (none)) else (none)) else (none))) = some r := h
 clear h
 obtain ⟨t138, A2, H⟩ := Xbi H
 (try dsimp only at H)
 obtain ⟨ji3, hji3⟩ : ∃ j_ : Int, (wrap64 (a0_0 - 1)) = j_ := ⟨_, rfl⟩
 replace H : (if 0 ≤ (ji3) then (if (ji3) < (t138.length : Int) then (if (rdOf ByteArray.empty t138 (ji3)).size + 1 ≤ 9223372036854775807 then ((spec_l00Digits.f k a0_1).bind fun t142 => (if ((rdOf ByteArray.empty t138 (ji3)) ++ (⟨#[32]⟩ : ByteArray)).size + t142.size ≤ 9223372036854775807 then (spec_l06Text.l0 k (((rdOf ByteArray.empty t138 (ji3)) ++ (⟨#[32]⟩ : ByteArray)) ++ t142) (([a0_2, a0_3] : List Int)) 0 a0_0 a0_1 a0_2 a0_3 a0_4) else (none))) else (none)) else (none)) else (none)) = some r := by first | (rw [hji3] at H; exact H) | (simp only [hji3] at H ⊢; exact H)
 (try rw [hji3] at A2)
 have hji3w : (IntKind.i64.wrap (a0_0 - 1)) = ji3 := (i64_w _).trans hji3
 obtain ⟨c4, H⟩ | ⟨c4, H⟩ := Xiu H
 ·have c4b0 : decide (0 ≤ (ji3)) = true := decide_eq_true c4
  clear c4
  obtain ⟨c5b0, H⟩ := Xid H
  obtain ⟨c6, H⟩ := Xif H
  have c6b0 := eq_true c6
  have c6b1 : decide ((rdOf ByteArray.empty t138 (ji3)).size + 1 ≤ 9223372036854775807) = true := decide_eq_true c6
  try have c6b2 : (9223372036854775807 < (rdOf ByteArray.empty t138 (ji3)).size + 1) = False := eq_false (Nat.not_lt.2 c6)
  obtain ⟨t142, A7, H⟩ := Xbi H
  (try dsimp only at H)
  obtain ⟨c8, H⟩ := Xif H
  have c8b0 := eq_true c8
  have c8b1 : decide (((rdOf ByteArray.empty t138 (ji3)) ++ (⟨#[32]⟩ : ByteArray)).size + t142.size ≤ 9223372036854775807) = true := decide_eq_true c8
  try have c8b2 : (9223372036854775807 < ((rdOf ByteArray.empty t138 (ji3)) ++ (⟨#[32]⟩ : ByteArray)).size + t142.size) = False := eq_false (Nat.not_lt.2 c8)
  try have c8b3 : (9223372036854775807 < (rdOf ByteArray.empty t138 (ji3)).size + 1 + t142.size) = False := eq_false (Nat.not_lt.2 (by have h_ := c8; simp only [ByteArray.size_append] at h_; exact h_))
  obtain ⟨y143, hy143⟩ : ∃ y_ : List Int, y_ = (([a0_2, a0_3] : List Int)) := ⟨_, rfl⟩
  replace H : (spec_l06Text.l0 k (((rdOf ByteArray.empty t138 (ji3)) ++ (⟨#[32]⟩ : ByteArray)) ++ t142) y143 0 a0_0 a0_1 a0_2 a0_3 a0_4) = some r := by first | (rw [hy143]; with_reducible exact H) | (have H2_ := (Option.bind_some _ _).symm.trans H; rw [hy143]; with_reducible exact H2_) | (have H2_ := (Option.bind_some _ _).symm.trans H; with_reducible exact H2_) | with_reducible exact H | (rw [hy143]; exact H) | exact H
  have Ny143 := Aside0.mk hy143
  clear hy143
  have H' := Aside0.mk H
  clear H
  go_enter Tryd.func36, Tryd.ntmps36
  try go_wp2_with (first | ((with_reducible refine gate_dst (N := 1) rfl ?_); refine Xbox 1 #[.int .i64 a0_0, .int .i64 a0_1, .int .i64 a0_2, .int .i64 a0_3, .string a0_4] 27 ?_; intro gb137 hg w9 hbox hb; have BK137 := Aside0.mk (hbox); have GE137 := Xge hg Xi; replace HB := Aside0.mk (below_step Xi hb); clear hb hbox hg))
  replace BK137 := Aside0.mk (blk_drew BK137.out)
  replace HB := Aside0.mk (below_drew1 HB.out)
  refine start_ (n := 12) (S := fun w' => w'.cell? ⟨gb137, 0, none⟩ = some (.int .i64 a0_0) ∧ w'.cell? ⟨gb137, 1, none⟩ = some (.int .i64 a0_1) ∧ w'.cell? ⟨gb137, 2, none⟩ = some (.int .i64 a0_2) ∧ w'.cell? ⟨gb137, 3, none⟩ = some (.int .i64 a0_3) ∧ w'.cell? ⟨gb137, 4, none⟩ = some (.string a0_4)) (ds := []) #[false, false, false, false, false, false, false, false, false, false, false, false] (by kernel_rfl) rfl rfl ⟨(blk_cell BK137.out 0).trans rfl, (blk_cell BK137.out 1).trans rfl, (blk_cell BK137.out 2).trans rfl, (blk_cell BK137.out 3).trans rfl, (blk_cell BK137.out 4).trans rfl⟩ (fun hHeld => ?_); refine with_tabW spec_l06Text.tab1 spec_l06Text.bits1 (fun HT_ HW_ => ?_)
  generalize w9.drew = w10 at BK137 HB hHeld ⊢
  refine Xpu 1 7 (XW.bs 12 2) HT_.out ?_
  refine Xpu 7 13 (XW.bs 12 130) HT_.out ?_
  refine Xta 2 8 (XW.bs 12 134) HT_.out HW_.out hHeld ?_
  refine Xpu 3 9 (XW.bs 12 142) HT_.out ?_
  refine Xta 8 14 (XW.bs 12 398) HT_.out HW_.out hHeld ?_
  refine one_ (i := 0) (N := some 6) (XW.bs 12 399) rfl rfl (one_of HT_.out (by kernel_rfl)) (by decide) (fun K hK => ?_)
  refine goes_ Tryd.func65 (by kernel_rfl) rfl #[] (by rfl) rfl rfl (by (try simp only [List.map_toArray, List.map_cons, List.map_nil]); first | done | rfl | (simp only [List.length_drop, List.length_take]; rfl)) ?_
  with_reducible refine (spec_l06Words.calls  t138 _ A2.out).mono ?_
  rintro e w11 ⟨v139, rfl, ho0, hb⟩
  refine ⟨_, rfl, ?_⟩
  have HO140 := Aside0.mk (Kd.R_lower ho0 (below_size Xi))
  replace BK137 := Xbb BK137 hb
  replace HB := Aside0.mk (below_step Xi hb)
  (try clear hb)
  (try clear hb2)
  (try clear hk)
  (try clear hi)
  (try clear ho0)
  obtain ⟨Ao12, co12, eo12⟩ := Kd.R_slice HO140.out
  (first | subst eo12 | (injection eo12 with f1_ f2_ f3_; have f4_ := f1_.symm; have f5_ := f3_.symm; clear f1_ f2_ f3_; subst f4_; subst f5_))
  have p141 : 0 ≤ ((ji3) : Int) := of_decide_eq_true Xa
  have q141 : (ji3) < (t138.length : Int) := of_decide_eq_true Xa
  obtain ⟨ad141, e141, hx141_0⟩ := Kd.at_string (Kd.R_reads' HO140.out).2.2 (ji3) p141 q141
  cases e141
  replace p141 := eq_true p141
  replace q141 := eq_true q141
  refine hK.out _ _ ⟨(blk_cell BK137.out 0).trans rfl, (blk_cell BK137.out 1).trans rfl, (blk_cell BK137.out 2).trans rfl, (blk_cell BK137.out 3).trans rfl, (blk_cell BK137.out 4).trans rfl⟩ (fun hHeld => ?_)
  refine XW.last_more (S' := fun w' => w'.cell? ⟨gb137, 0, none⟩ = some (.int .i64 a0_0) ∧ w'.cell? ⟨gb137, 1, none⟩ = some (.int .i64 a0_1) ∧ w'.cell? ⟨gb137, 2, none⟩ = some (.int .i64 a0_2) ∧ w'.cell? ⟨gb137, 3, none⟩ = some (.int .i64 a0_3) ∧ w'.cell? ⟨gb137, 4, none⟩ = some (.string a0_4) ∧ w'.cell? (ad141.add ((ji3)).toNat) = some (.string (rdOf ByteArray.empty t138 (ji3)))) (fun _ h => ⟨h.1, h.2.1, h.2.2.1, h.2.2.2.1, h.2.2.2.2.1⟩) (fun hHeld => ?_) ⟨(blk_cell BK137.out 0).trans rfl, (blk_cell BK137.out 1).trans rfl, (blk_cell BK137.out 2).trans rfl, (blk_cell BK137.out 3).trans rfl, (blk_cell BK137.out 4).trans rfl, hx141_0⟩
  clear hK K
  refine Xno ?_
  refine Xpu 4 10 (XW.bs 12 415) HT_.out ?_
  refine Xta 5 11 (XW.bs 12 447) HT_.out HW_.out hHeld ?_
  refine Xpu 6 12 (XW.bs 12 511) HT_.out ?_
  refine one_ (i := 9) (N := some 15) (XW.bs 12 1023) rfl rfl (one_of HT_.out (by kernel_rfl)) (by decide) (fun K hK => ?_)
  refine goes_ Tryd.func66 (by kernel_rfl) rfl #[.int .i64 a0_1] (by rfl) rfl rfl (by (try simp only [List.map_toArray, List.map_cons, List.map_nil]); first | done | rfl | (simp only [List.length_drop, List.length_take]; rfl)) ?_
  with_reducible refine (spec_l00Digits.calls k a0_1 t142 _ A7.out).mono ?_
  rintro e w13 ⟨rfl, hb⟩
  have HS5_ := (hb.cell (World.block_lt_of_cell? _ _ (hHeld.2.2.2.2.2))).trans (hHeld.2.2.2.2.2)
  refine ⟨_, rfl, ?_⟩
  replace HO140 := Aside0.mk (Kd.R_below (Xq HO140) hb)
  replace BK137 := Xbb BK137 hb
  replace HB := Aside0.mk (below_step Xi hb)
  (try clear hb)
  (try clear hb2)
  (try clear hk)
  (try clear hi)
  refine hK.out _ _ ⟨(blk_cell BK137.out 0).trans rfl, (blk_cell BK137.out 1).trans rfl, (blk_cell BK137.out 2).trans rfl, (blk_cell BK137.out 3).trans rfl, (blk_cell BK137.out 4).trans rfl, HS5_⟩ (fun hHeld => ?_)
  clear hK K
  refine Xno ?_
  refine Xpu 10 16 (XW.bs 12 2047) HT_.out ?_
  refine Xpu 11 3 (XW.bs 12 4095) HT_.out ?_
  refine done_ (done_of HT_.out (by kernel_rfl)) ?_
  obtain ⟨hcz14_0, hcz14_1, hcz14_2, hcz14_3, hcz14_4⟩ := Xc5 BK137
  try go_wp2_with (first | ((with_reducible refine gate_dst (N := 21) rfl ?_); refine Kd.R_lit (Kd.int .i64) _ 3 ?hg (N := 21) ?hd (xs := ([a0_2, a0_3] : List Int)) (inner := [.int .i64 a0_2, .int .i64 a0_3]) (ok := fun _ => True) (okp := fun _ => True) ?hr ?hp (fun _ hk => hk) trivial (Below.refl _ _) (Nat.le_refl _) (by simp) ?_; (case hd => rfl); (case hg => rfl); (case hr => first | (go_simp; done) | (go_simp; rfl)); (case hp => exact (Reps.one (show Kd.M (Kd.int .i64) _ _ _ a0_2 [.int .i64 a0_2] from rfl) (Reps.one (show Kd.M (Kd.int .i64) _ _ _ a0_3 [.int .i64 a0_3] from rfl) (Reps.none _ _)))); intro v144 w15 ho16 hb hg_ hnew_; clear hg_ hnew_; (first | rw [← Ny143.out] at ho16 | (simp only [Int.reduceToNat] at ho16; rw [← Ny143.out] at ho16)); replace HO140 := Aside0.mk (Kd.R_below (Xq HO140) hb); have HO145 := Aside0.mk (Kd.R_lower ho16 (below_size Xi)); replace BK137 := Xbb BK137 hb; replace HB := Aside0.mk (below_step Xi hb); clear hb ho16))
  go_loopg [3, 5] k (fun kq v3 v5 w' => ∃ (x3_1 : ByteArray) (x5_1 : Int), v3 = .string x3_1 ∧ v5 = .int .i64 x5_1 ∧ Aside0 (spec_l06Text.l0 kq x3_1 y143 x5_1 a0_0 a0_1 a0_2 a0_3 a0_4 = some r) ∧ Aside0 (kq ≤ k) ∧ Aside0 (Kd.R (Kd.int .i64) 3 w' w.heap.size (fun _ => True) v144 y143) ∧ Aside0 (w'.heap[gb137]? = some (.cells #[.int .i64 a0_0, .int .i64 a0_1, .int .i64 a0_2, .int .i64 a0_3, .string a0_4] 27 (0, 0))) ∧ Aside0 (Below w.heap.size w w'))
  case atStart => exact ⟨(((rdOf ByteArray.empty t138 (ji3)) ++ (⟨#[32]⟩ : ByteArray)) ++ t142), (0), (by first | rfl | (simp; done) | (simp only [← hji3] <;> (first | rfl | simp)) | (simp [*]; done)), Xr, H', Xkr, (Xp' HO145), BK137, ⟨Xi⟩⟩
  case round =>
   clear H'
   (try clear c4); (try clear c4b0); (try clear c5); (try clear c5b0); (try clear c6); (try clear c6b0); (try clear c6b1); (try clear c6b2); (try clear c8); (try clear c8b0); (try clear c8b1); (try clear c8b2); (try clear hcz14_0); (try clear hcz14_1); (try clear hcz14_2); (try clear hcz14_3); (try clear hcz14_4); (try clear hx141_0); (try clear p141); (try clear q141)
   obtain ⟨x3_1, x5_1, rfl, rfl, HA, HK1, HO_4, BK137, HB⟩ := hrel
   cases gk with
   | zero => cases HA.out
   | succ k1 =>
    have H := HA.out
    clear HA
    simp only [spec_l06Text.l0] at H
    obtain ⟨t146, A17, H⟩ := Xbi H
    (try dsimp only at H)
    have HC18 := Aside0.mk H
    clear H
    obtain ⟨hcz19_0, hcz19_1, hcz19_2, hcz19_3, hcz19_4⟩ := Xc5 BK137
    go_upto_if 26 with (first | ((with_reducible refine gate_callee (f := 67) rfl ?_); refine goesL_ (some 25) rfl rfl Tryd.func67 (by kernel_rfl) rfl #[.int .i64 a0_0] rfl (by (try simp only [List.map_toArray, List.map_cons, List.map_nil]); first | done | rfl | (simp only [List.length_drop, List.length_take]; rfl)) ?_; (with_reducible refine (spec_l06Many.calls a0_0 t146 _ A17.out).mono ?_); rintro e w20 ⟨rfl, hb⟩; refine ⟨_, rfl, ?_⟩; replace HO_4 := Aside0.mk (Kd.R_below (Xq HO_4) hb); replace BK137 := Xbb BK137 hb; replace HB := Aside0.mk (below_step Xi hb); clear hb))
    have H := HC18.out
    clear HC18
    obtain ⟨c21b0, H⟩ | ⟨c21b0, H⟩ := Xit H
    ·(first | rw [c21b0] | (simp only [i64_w, i32_w]; rw [c21b0]) | skip)
     obtain ⟨c22b0, H⟩ := Xid H
     obtain ⟨c23b0, H⟩ := Xid H
     obtain ⟨t148, A24, H⟩ := Xbi H
     (try dsimp only at H)
     obtain ⟨c25, H⟩ := Xif H
     have c25b0 := eq_true c25
     have c25b1 : decide (1 + t148.size ≤ 9223372036854775807) = true := decide_eq_true c25
     try have c25b2 : (9223372036854775807 < 1 + t148.size) = False := eq_false (Nat.not_lt.2 c25)
     obtain ⟨c26, H⟩ := Xif H
     have c26b0 := eq_true c26
     have c26b1 : decide (x3_1.size + ((⟨#[32]⟩ : ByteArray) ++ t148).size ≤ 9223372036854775807) = true := decide_eq_true c26
     try have c26b2 : (9223372036854775807 < x3_1.size + ((⟨#[32]⟩ : ByteArray) ++ t148).size) = False := eq_false (Nat.not_lt.2 c26)
     try have c26b3 : (9223372036854775807 < x3_1.size + 1 + t148.size) = False := eq_false (Nat.not_lt.2 (by have h_ := c26; simp only [ByteArray.size_append] at h_; exact h_))
     have H' := Aside0.mk H
     clear H
     obtain ⟨Ao27, co27, eo27⟩ := Kd.R_slice HO_4.out
     subst eo27
     have p147 : 0 ≤ (x5_1 : Int) := of_decide_eq_true Xa
     have q147 : x5_1 < (y143.length : Int) := of_decide_eq_true Xa
     obtain ⟨ad147, e147, hx147_0⟩ := Kd.at_int (Kd.R_reads' HO_4.out).2.2 x5_1 p147 q147
     cases e147
     replace p147 := eq_true p147
     replace q147 := eq_true q147
     go_wp2_with (first | ((with_reducible refine gate_callee (f := 66) rfl ?_); refine goesL_ (some 34) rfl rfl Tryd.func66 (by kernel_rfl) rfl #[.int .i64 (rd y143 x5_1)] rfl (by (try simp only [List.map_toArray, List.map_cons, List.map_nil]); first | done | rfl | (simp only [List.length_drop, List.length_take]; rfl)) ?_; (with_reducible refine (spec_l00Digits.calls k1 (rd y143 x5_1) t148 _ A24.out).mono ?_); rintro e w28 ⟨rfl, hb⟩; refine ⟨_, rfl, ?_⟩; replace HO_4 := Aside0.mk (Kd.R_below (Xq HO_4) hb); replace BK137 := Xbb BK137 hb; replace HB := Aside0.mk (below_step Xi hb); clear hb))
     go_roundg k1
     case measure => have := HK1.out; omega
     case rel => exact ⟨(x3_1 ++ ((⟨#[32]⟩ : ByteArray) ++ t148)), (wrap64 (x5_1 + 1)), Xr, Xr, H', Xk1, (Xp' HO_4), BK137, ⟨Xi⟩⟩
    ·(first | rw [c21b0] | (simp only [i64_w, i32_w]; rw [c21b0]) | skip)
     obtain ⟨c29, H⟩ | ⟨c29, H⟩ := Xiu H
     ·have c29b0 : (a0_0 == 3) = true := beq_iff_eq.mpr c29
      have c29b1 : (a0_0 != 3) = false := bne_eq_false_iff_eq.mpr c29
      clear c29
      obtain ⟨t149, A30, H⟩ := Xbi H
      (try dsimp only at H)
      obtain ⟨c31, H⟩ := Xif H
      have c31b0 := eq_true c31
      have c31b1 : decide (1 + t149.size ≤ 9223372036854775807) = true := decide_eq_true c31
      try have c31b2 : (9223372036854775807 < 1 + t149.size) = False := eq_false (Nat.not_lt.2 c31)
      obtain ⟨c32, H⟩ := Xif H
      have c32b0 := eq_true c32
      have c32b1 : decide (x3_1.size + ((⟨#[32]⟩ : ByteArray) ++ t149).size ≤ 9223372036854775807) = true := decide_eq_true c32
      try have c32b2 : (9223372036854775807 < x3_1.size + ((⟨#[32]⟩ : ByteArray) ++ t149).size) = False := eq_false (Nat.not_lt.2 c32)
      try have c32b3 : (9223372036854775807 < x3_1.size + 1 + t149.size) = False := eq_false (Nat.not_lt.2 (by have h_ := c32; simp only [ByteArray.size_append] at h_; exact h_))
      obtain rfl := Option.some.inj H
      obtain ⟨hcz33_0, hcz33_1, hcz33_2, hcz33_3, hcz33_4⟩ := Xc5 BK137
      go_wp2_with (first | ((with_reducible refine gate_callee (f := 68) rfl ?_); refine goesL_ (some 43) rfl rfl Tryd.func68 (by kernel_rfl) rfl #[.string a0_4] rfl (by (try simp only [List.map_toArray, List.map_cons, List.map_nil]); first | done | rfl | (simp only [List.length_drop, List.length_take]; rfl)) ?_; (with_reducible refine (spec_l06Quote.calls k1 a0_4 t149 _ A30.out).mono ?_); rintro e w34 ⟨rfl, hb⟩; refine ⟨_, rfl, ?_⟩; replace HO_4 := Aside0.mk (Kd.R_below (Xq HO_4) hb); replace BK137 := Xbb BK137 hb; replace HB := Aside0.mk (below_step Xi hb); clear hb))
      go_ret
      exact ⟨by first | rfl | (simp [errW_none, errW_some] <;> rfl) | (simp only [← hji3]; first | rfl | (simp [errW_none, errW_some] <;> rfl)) | (simp [*, errW_none, errW_some] <;> rfl), Xi⟩
     ·have c29b0 : (a0_0 == 3) = false := beq_eq_false_iff_ne.mpr c29
      have c29b1 : (a0_0 != 3) = true := bne_iff_ne.mpr c29
      obtain rfl := Option.some.inj H
      obtain ⟨hcz35_0, hcz35_1, hcz35_2, hcz35_3, hcz35_4⟩ := Xc5 BK137
      go_wp2
      go_ret
      exact ⟨by first | rfl | (simp [errW_none, errW_some] <;> rfl) | (simp only [← hji3]; first | rfl | (simp [errW_none, errW_some] <;> rfl)) | (simp [*, errW_none, errW_some] <;> rfl), Xi⟩
 ·exact absurd H (by simp)

/-! ### spec_EditText: function 9 -/
def spec_EditText.f (k : Nat) (a0_0 : Int) (a0_1 : Int) (a0_2 : Int) (a0_3 : Int) (a0_4 : ByteArray) : Option (ByteArray × Int) := (spec_EditOK.f k a0_0 a0_1 a0_2 a0_3 a0_4).bind fun t151 => (if t151 = true then ((spec_l06Text.f k a0_0 a0_1 a0_2 a0_3 a0_4).bind fun t152 => (some (t152, 0))) else (some ((⟨#[]⟩ : ByteArray), 1)))
set_option maxHeartbeats 8000000 in
set_option maxRecDepth 100000 in
theorem spec_EditText.calls (k : Nat) (a0_0 : Int) (a0_1 : Int) (a0_2 : Int) (a0_3 : Int) (a0_4 : ByteArray) (r1 : ByteArray) (r2 : Int) (w : World) (h : spec_EditText.f k a0_0 a0_1 a0_2 a0_3 a0_4 = some (r1, r2)) :
  Calls Tryd.prog 9 #[.agg #[.int .i64 a0_0, .int .i64 a0_1, .int .i64 a0_2, .int .i64 a0_3, .string a0_4]] w fun e w' => e = .returned (.tuple #[.string r1, .int .i64 r2]) ∧ Below w.heap.size w w' := by
 have hu27 := Tryd.underlying27
 have HB := Aside0.mk (Below.refl w.heap.size w)
 have H : ((spec_EditOK.f k a0_0 a0_1 a0_2 a0_3 a0_4).bind fun t151 => (if t151 = true then ((spec_l06Text.f k a0_0 a0_1 a0_2 a0_3 a0_4).bind fun t152 => (some (t152, 0))) else (some ((⟨#[]⟩ : ByteArray), 1)))) = some (r1, r2) := h
 clear h
 obtain ⟨t151, A2, H⟩ := Xbi H
 (try dsimp only at H)
 have HC3 := Aside0.mk H
 clear H
 go_enter Tryd.func9, Tryd.ntmps9
 go_upto_if 6 with (first | ((with_reducible refine gate_dst (N := 1) rfl ?_); refine Xbox 1 #[.int .i64 a0_0, .int .i64 a0_1, .int .i64 a0_2, .int .i64 a0_3, .string a0_4] 27 ?_; intro gb150 hg w4 hbox hb; have BK150 := Aside0.mk (hbox); have GE150 := Xge hg Xi; replace HB := Aside0.mk (below_step Xi hb); clear hb hbox hg; obtain ⟨hcz5_0, hcz5_1, hcz5_2, hcz5_3, hcz5_4⟩ := Xc5 BK150) | ((with_reducible refine gate_callee (f := 35) rfl ?_); refine goesL_ (some 5) rfl rfl Tryd.func35 (by kernel_rfl) rfl #[.agg #[.int .i64 a0_0, .int .i64 a0_1, .int .i64 a0_2, .int .i64 a0_3, .string a0_4]] rfl (by (try simp only [List.map_toArray, List.map_cons, List.map_nil]); first | done | rfl | (simp only [List.length_drop, List.length_take]; rfl)) ?_; (with_reducible refine (spec_EditOK.calls k a0_0 a0_1 a0_2 a0_3 a0_4 t151 _ A2.out).mono ?_); rintro e w6 ⟨rfl, hb⟩; refine ⟨_, rfl, ?_⟩; replace BK150 := Xbb BK150 hb; replace HB := Aside0.mk (below_step Xi hb); clear hb))
 have H := HC3.out
 clear HC3
 by_cases c7 : t151 = true
 ·subst c7
  (first | rw [if_pos rfl] at H | skip)
  obtain ⟨t152, A8, H⟩ := Xbi H
  (try dsimp only at H)
  simp only [Option.some.injEq, Prod.mk.injEq] at H
  obtain ⟨rfl, rfl⟩ := H
  obtain ⟨hcz9_0, hcz9_1, hcz9_2, hcz9_3, hcz9_4⟩ := Xc5 BK150
  go_wp2_with (first | ((with_reducible refine gate_callee (f := 36) rfl ?_); refine goesL_ (some 8) rfl rfl Tryd.func36 (by kernel_rfl) rfl #[.agg #[.int .i64 a0_0, .int .i64 a0_1, .int .i64 a0_2, .int .i64 a0_3, .string a0_4]] rfl (by (try simp only [List.map_toArray, List.map_cons, List.map_nil]); first | done | rfl | (simp only [List.length_drop, List.length_take]; rfl)) ?_; (with_reducible refine (spec_l06Text.calls k a0_0 a0_1 a0_2 a0_3 a0_4 t152 _ A8.out).mono ?_); rintro e w10 ⟨rfl, hb⟩; refine ⟨_, rfl, ?_⟩; replace BK150 := Xbb BK150 hb; replace HB := Aside0.mk (below_step Xi hb); clear hb))
  go_ret2
  exact ⟨Xe, Xi⟩
 ·replace c7 := Bool.eq_false_iff.mpr c7
  subst c7
  (first | rw [if_neg (show ¬ (false = true) by decide)] at H | skip)
  simp only [Option.some.injEq, Prod.mk.injEq] at H
  obtain ⟨rfl, rfl⟩ := H
  go_wp2
  go_ret2
  exact ⟨Xe, Xi⟩

/-! ### laws_toEdit: function 10 -/
def laws_toEdit.f (a0_0 : Int) (a0_1 : Int) (a0_2 : Int) (a0_3 : Int) (a0_4 : ByteArray) : Option (Int × Int × Int × Int × ByteArray) := some (a0_0, a0_1, a0_2, a0_3, a0_4)
set_option maxHeartbeats 8000000 in
set_option maxRecDepth 100000 in
theorem laws_toEdit.calls (a0_0 : Int) (a0_1 : Int) (a0_2 : Int) (a0_3 : Int) (a0_4 : ByteArray) (r1 : Int) (r2 : Int) (r3 : Int) (r4 : Int) (r5 : ByteArray) (w : World) (h : laws_toEdit.f a0_0 a0_1 a0_2 a0_3 a0_4 = some (r1, r2, r3, r4, r5)) :
  Calls Tryd.prog 10 #[.agg #[.int .i64 a0_0, .int .i64 a0_1, .int .i64 a0_2, .int .i64 a0_3, .string a0_4]] w fun e w' => e = .returned (.agg #[.int .i64 r1, .int .i64 r2, .int .i64 r3, .int .i64 r4, .string r5]) ∧ Below w.heap.size w w' := by
 have hu23 := Tryd.underlying23
 have hu27 := Tryd.underlying27
 have HB := Aside0.mk (Below.refl w.heap.size w)
 have H : (some (a0_0, a0_1, a0_2, a0_3, a0_4)) = some (r1, r2, r3, r4, r5) := h
 clear h
 simp only [Option.some.injEq, Prod.mk.injEq] at H
 obtain ⟨rfl, rfl, rfl, rfl, rfl⟩ := H
 go_enter Tryd.func10, Tryd.ntmps10
 go_wp2_with (first | ((with_reducible refine gate_dst (N := 1) rfl ?_); refine Xbox 1 #[.int .i64 a0_0, .int .i64 a0_1, .int .i64 a0_2, .int .i64 a0_3, .string a0_4] 23 ?_; intro gb153 hg w2 hbox hb; have BK153 := Aside0.mk (hbox); have GE153 := Xge hg Xi; replace HB := Aside0.mk (below_step Xi hb); clear hb hbox hg) | ((with_reducible refine gate_dst (N := 2) rfl ?_); refine Xbox 2 #[.int .i64 0, .int .i64 0, .int .i64 0, .int .i64 0, .string (⟨#[]⟩ : ByteArray)] 27 ?_; intro gb154 hg w3 hbox hb; have BK154 := Aside0.mk (hbox); have GE154 := Xge hg Xi; replace HB := Aside0.mk (below_step Xi hb); have NB153_154 := Xnb hg BK153; have NB154_153 := Xns NB153_154; replace BK153 := Xbb BK153 hb; clear hb hbox hg) | ((with_reducible refine gate_dst (N := 3) rfl ?_); refine Xbox 3 #[.int .i64 0, .int .i64 0, .int .i64 0, .int .i64 0, .string (⟨#[]⟩ : ByteArray)] 27 ?_; intro gb155 hg w4 hbox hb; have BK155 := Aside0.mk (hbox); have GE155 := Xge hg Xi; replace HB := Aside0.mk (below_step Xi hb); have NB153_155 := Xnb hg BK153; have NB155_153 := Xns NB153_155; replace BK153 := Xbb BK153 hb; have NB154_155 := Xnb hg BK154; have NB155_154 := Xns NB154_155; replace BK154 := Xbb BK154 hb; clear hb hbox hg; have hnb5 := NB153_154.out; have hnc5 := NB154_153.out; have hnb6 := NB153_155.out; have hnc6 := NB155_153.out; obtain ⟨hcz7_0, hcz7_1, hcz7_2, hcz7_3, hcz7_4⟩ := Xc5 BK153; obtain ⟨hfz7_0, hfz7_1, hfz7_2, hfz7_3, hfz7_4⟩ := Xf5 BK153; have hnb8 := NB155_154.out; have hnc8 := NB154_155.out; obtain ⟨hcz9_0, hcz9_1, hcz9_2, hcz9_3, hcz9_4⟩ := Xc5 BK155; obtain ⟨hfz9_0, hfz9_1, hfz9_2, hfz9_3, hfz9_4⟩ := Xf5 BK155; obtain ⟨hcz10_0, hcz10_1, hcz10_2, hcz10_3, hcz10_4⟩ := Xc5 BK154; obtain ⟨hfz10_0, hfz10_1, hfz10_2, hfz10_3, hfz10_4⟩ := Xf5 BK154) | ((with_reducible refine gate_store (t := 27) (p := 2) rfl ?_); refine store_event (t := 27) (p := 2) (v := ?vo_w11) (w1 := ((((((((((w4.setCell ⟨gb155, 0, none⟩ (.int .i64 a0_0)).setCell ⟨gb155, 1, none⟩ (.int .i64 a0_1)).setCell ⟨gb155, 2, none⟩ (.int .i64 a0_2)).setCell ⟨gb155, 3, none⟩ (.int .i64 a0_3)).setCell ⟨gb155, 4, none⟩ (.string a0_4)).setCell ⟨gb154, 0, none⟩ (.int .i64 a0_0)).setCell ⟨gb154, 1, none⟩ (.int .i64 a0_1)).setCell ⟨gb154, 2, none⟩ (.int .i64 a0_2)).setCell ⟨gb154, 3, none⟩ (.int .i64 a0_3)).setCell ⟨gb154, 4, none⟩ (.string a0_4))) ?hg ?ho ?hn ?hr ?_; (case ho => rfl); (case hg => rfl); (case hn => rfl); (case hr => first | (go_simp; done) | (go_simp; rfl)); intro w11 hw; have n0_ : Aside0 (w11.heap[gb153]? = some (.cells #[.int .i64 a0_0, .int .i64 a0_1, .int .i64 a0_2, .int .i64 a0_3, .string a0_4] 23 (0, 0))) := ⟨(by rw [hw]; exact (by (with_reducible repeat (first | refine blk_drewN ?_ _ | refine blk_drew ?_ | refine blk_alloc ?_ _)); refine blk_far ?_ NB153_154.out _; (with_reducible repeat (first | refine blk_drewN ?_ _ | refine blk_drew ?_ | refine blk_alloc ?_ _)); refine blk_far ?_ NB153_154.out _; (with_reducible repeat (first | refine blk_drewN ?_ _ | refine blk_drew ?_ | refine blk_alloc ?_ _)); refine blk_far ?_ NB153_154.out _; (with_reducible repeat (first | refine blk_drewN ?_ _ | refine blk_drew ?_ | refine blk_alloc ?_ _)); refine blk_far ?_ NB153_154.out _; (with_reducible repeat (first | refine blk_drewN ?_ _ | refine blk_drew ?_ | refine blk_alloc ?_ _)); refine blk_far ?_ NB153_154.out _; (with_reducible repeat (first | refine blk_drewN ?_ _ | refine blk_drew ?_ | refine blk_alloc ?_ _)); refine blk_far ?_ NB153_155.out _; (with_reducible repeat (first | refine blk_drewN ?_ _ | refine blk_drew ?_ | refine blk_alloc ?_ _)); refine blk_far ?_ NB153_155.out _; (with_reducible repeat (first | refine blk_drewN ?_ _ | refine blk_drew ?_ | refine blk_alloc ?_ _)); refine blk_far ?_ NB153_155.out _; (with_reducible repeat (first | refine blk_drewN ?_ _ | refine blk_drew ?_ | refine blk_alloc ?_ _)); refine blk_far ?_ NB153_155.out _; (with_reducible repeat (first | refine blk_drewN ?_ _ | refine blk_drew ?_ | refine blk_alloc ?_ _)); refine blk_far ?_ NB153_155.out _; (with_reducible repeat (first | refine blk_drewN ?_ _ | refine blk_drew ?_ | refine blk_alloc ?_ _)); exact BK153.out))⟩; have n1_ : Aside0 (w11.heap[gb154]? = some (.cells #[.int .i64 a0_0, .int .i64 a0_1, .int .i64 a0_2, .int .i64 a0_3, .string a0_4] 27 (0, 0))) := ⟨(by rw [hw]; exact (by (with_reducible repeat (first | refine blk_drewN ?_ _ | refine blk_drew ?_ | refine blk_alloc ?_ _)); refine blk_put (cs := #[.int .i64 a0_0, .int .i64 a0_1, .int .i64 a0_2, .int .i64 a0_3, .string (⟨#[]⟩ : ByteArray)]) ?_ 4 _ rfl; (with_reducible repeat (first | refine blk_drewN ?_ _ | refine blk_drew ?_ | refine blk_alloc ?_ _)); refine blk_put (cs := #[.int .i64 a0_0, .int .i64 a0_1, .int .i64 a0_2, .int .i64 0, .string (⟨#[]⟩ : ByteArray)]) ?_ 3 _ rfl; (with_reducible repeat (first | refine blk_drewN ?_ _ | refine blk_drew ?_ | refine blk_alloc ?_ _)); refine blk_put (cs := #[.int .i64 a0_0, .int .i64 a0_1, .int .i64 0, .int .i64 0, .string (⟨#[]⟩ : ByteArray)]) ?_ 2 _ rfl; (with_reducible repeat (first | refine blk_drewN ?_ _ | refine blk_drew ?_ | refine blk_alloc ?_ _)); refine blk_put (cs := #[.int .i64 a0_0, .int .i64 0, .int .i64 0, .int .i64 0, .string (⟨#[]⟩ : ByteArray)]) ?_ 1 _ rfl; (with_reducible repeat (first | refine blk_drewN ?_ _ | refine blk_drew ?_ | refine blk_alloc ?_ _)); refine blk_put (cs := #[.int .i64 0, .int .i64 0, .int .i64 0, .int .i64 0, .string (⟨#[]⟩ : ByteArray)]) ?_ 0 _ rfl; (with_reducible repeat (first | refine blk_drewN ?_ _ | refine blk_drew ?_ | refine blk_alloc ?_ _)); refine blk_far ?_ NB154_155.out _; (with_reducible repeat (first | refine blk_drewN ?_ _ | refine blk_drew ?_ | refine blk_alloc ?_ _)); refine blk_far ?_ NB154_155.out _; (with_reducible repeat (first | refine blk_drewN ?_ _ | refine blk_drew ?_ | refine blk_alloc ?_ _)); refine blk_far ?_ NB154_155.out _; (with_reducible repeat (first | refine blk_drewN ?_ _ | refine blk_drew ?_ | refine blk_alloc ?_ _)); refine blk_far ?_ NB154_155.out _; (with_reducible repeat (first | refine blk_drewN ?_ _ | refine blk_drew ?_ | refine blk_alloc ?_ _)); refine blk_far ?_ NB154_155.out _; (with_reducible repeat (first | refine blk_drewN ?_ _ | refine blk_drew ?_ | refine blk_alloc ?_ _)); exact BK154.out))⟩; have n2_ : Aside0 (w11.heap[gb155]? = some (.cells #[.int .i64 a0_0, .int .i64 a0_1, .int .i64 a0_2, .int .i64 a0_3, .string a0_4] 27 (0, 0))) := ⟨(by rw [hw]; exact (by (with_reducible repeat (first | refine blk_drewN ?_ _ | refine blk_drew ?_ | refine blk_alloc ?_ _)); refine blk_far ?_ NB155_154.out _; (with_reducible repeat (first | refine blk_drewN ?_ _ | refine blk_drew ?_ | refine blk_alloc ?_ _)); refine blk_far ?_ NB155_154.out _; (with_reducible repeat (first | refine blk_drewN ?_ _ | refine blk_drew ?_ | refine blk_alloc ?_ _)); refine blk_far ?_ NB155_154.out _; (with_reducible repeat (first | refine blk_drewN ?_ _ | refine blk_drew ?_ | refine blk_alloc ?_ _)); refine blk_far ?_ NB155_154.out _; (with_reducible repeat (first | refine blk_drewN ?_ _ | refine blk_drew ?_ | refine blk_alloc ?_ _)); refine blk_far ?_ NB155_154.out _; (with_reducible repeat (first | refine blk_drewN ?_ _ | refine blk_drew ?_ | refine blk_alloc ?_ _)); refine blk_put (cs := #[.int .i64 a0_0, .int .i64 a0_1, .int .i64 a0_2, .int .i64 a0_3, .string (⟨#[]⟩ : ByteArray)]) ?_ 4 _ rfl; (with_reducible repeat (first | refine blk_drewN ?_ _ | refine blk_drew ?_ | refine blk_alloc ?_ _)); refine blk_put (cs := #[.int .i64 a0_0, .int .i64 a0_1, .int .i64 a0_2, .int .i64 0, .string (⟨#[]⟩ : ByteArray)]) ?_ 3 _ rfl; (with_reducible repeat (first | refine blk_drewN ?_ _ | refine blk_drew ?_ | refine blk_alloc ?_ _)); refine blk_put (cs := #[.int .i64 a0_0, .int .i64 a0_1, .int .i64 0, .int .i64 0, .string (⟨#[]⟩ : ByteArray)]) ?_ 2 _ rfl; (with_reducible repeat (first | refine blk_drewN ?_ _ | refine blk_drew ?_ | refine blk_alloc ?_ _)); refine blk_put (cs := #[.int .i64 a0_0, .int .i64 0, .int .i64 0, .int .i64 0, .string (⟨#[]⟩ : ByteArray)]) ?_ 1 _ rfl; (with_reducible repeat (first | refine blk_drewN ?_ _ | refine blk_drew ?_ | refine blk_alloc ?_ _)); refine blk_put (cs := #[.int .i64 0, .int .i64 0, .int .i64 0, .int .i64 0, .string (⟨#[]⟩ : ByteArray)]) ?_ 0 _ rfl; (with_reducible repeat (first | refine blk_drewN ?_ _ | refine blk_drew ?_ | refine blk_alloc ?_ _)); exact BK155.out))⟩; have n3_ : Aside0 (Below w.heap.size w w11) := ⟨(by rw [hw]; exact Xi)⟩; clear hw; clear BK153; clear BK154; clear BK155; clear HB; have BK153 := n0_; have BK154 := n1_; have BK155 := n2_; have HB := n3_; clear n0_ n1_ n2_ n3_))
 refine bodyPost_ret (results_cell_row rfl _ _ gb154 27 #[.int .i64 a0_0, .int .i64 a0_1, .int .i64 a0_2, .int .i64 a0_3, .string a0_4] (0, 0) _ rfl BK154.out Tryd.underlying27 rfl (by kernel_rfl)) rfl ?_
 exact ⟨Xe, Xi⟩

/-! ### impl_within: function 57 -/
def impl_within.f (a0 : Int) (a1 : Int) (a2 : Int) : Option (Bool) := if a0 ≥ a1 then (some (decide (a0 ≤ a2))) else (some false)
set_option maxHeartbeats 8000000 in
set_option maxRecDepth 100000 in
theorem impl_within.calls (a0 : Int) (a1 : Int) (a2 : Int) (r : Bool) (w : World) (h : impl_within.f a0 a1 a2 = some r) :
  Calls Tryd.prog 57 #[.int .i64 a0, .int .i64 a1, .int .i64 a2] w fun e w' => e = .returned (.bool r) ∧ Drawn0 w w' := by
 have H : (if a0 ≥ a1 then (some (decide (a0 ≤ a2))) else (some false)) = some r := h
 clear h
 obtain ⟨c4, H⟩ | ⟨c4, H⟩ := Xiu H
 ·have c4b0 : decide (a1 ≤ a0) = true := decide_eq_true c4
  clear c4
  obtain rfl := Option.some.inj H
  go_enter Tryd.func57, Tryd.ntmps57
  go_wp2
  go_ret
  exact ⟨Xr, Xdr⟩
 ·have c4b0 : decide (a1 ≤ a0) = false := decide_eq_false c4
  clear c4
  obtain rfl := Option.some.inj H
  go_enter Tryd.func57, Tryd.ntmps57
  go_wp2
  go_ret
  exact ⟨Xr, Xdr⟩

end Go.Proofs.YtomlmcimlojmoaaDoor.XA
