/- Contracts of the program's functions: each Go function that is named below comes to what its Lean function says. Written by xprint.py (a program of this session's, over the kit's print). Conditions: each contract's own premises. -/
import Derived.Test.YtomlmcimlojmoaaDoorYEditText0
import Derived.Test.YtomlmcimlojmoaaDoorYEditText4
import Derived.Test.YtomlmcimlojmoaaDoorYEditText5
import Derived.Test.YtomlmcimlojmoaaDoorYEditTextItoa
namespace Go.Proofs.YtomlmcimlojmoaaDoor.XA
open Go.RowKit Go.Proofs.YtomlmcimlojmoaaDoorW.PrintWords Go.Proofs.YtomlmcimlojmoaaDoorW.PrintLast Go.Proofs.YtomlmcimlojmoaaDoorW.PrintMore XW
attribute [local go_sem] max2_int min2_int max_two min_two max_three min_three max_four min_four   -- for this text's walks alone
set_option linter.unusedVariables false
set_option linter.unusedSimpArgs false

/-! ### impl_editText: function 38 -/
mutual
def impl_editText.j0 : Nat → ByteArray → Int → Bool → Int → Int → Int → Int → ByteArray → Option (ByteArray)
 | 0, _, _, _, _, _, _, _, _ => none
 | k + 1, x3, x15, x29, x191000, x191001, x191002, x191003, x191004 => if x29 = true then (if x3.size + 1 ≤ 9223372036854775807 then ((strconv_Itoa.f x191002).bind fun t197 => (if (x3 ++ (⟨#[32]⟩ : ByteArray)).size + t197.size ≤ 9223372036854775807 then (some ((x3 ++ (⟨#[32]⟩ : ByteArray)) ++ t197)) else (none))) else (none)) else (if x15 = 1 then (impl_editText.j1 k x3 (x15 == 1) x191000 x191001 x191002 x191003 x191004) else (impl_editText.j1 k x3 (x15 == 5) x191000 x191001 x191002 x191003 x191004))
def impl_editText.j1 : Nat → ByteArray → Bool → Int → Int → Int → Int → ByteArray → Option (ByteArray)
 | 0, _, _, _, _, _, _, _ => none
 | k + 1, x3, x39, x191000, x191001, x191002, x191003, x191004 => if x39 = true then (if x3.size + 1 ≤ 9223372036854775807 then ((strconv_Itoa.f x191002).bind fun t198 => (if (x3 ++ (⟨#[32]⟩ : ByteArray)).size + t198.size ≤ 9223372036854775807 then (if ((x3 ++ (⟨#[32]⟩ : ByteArray)) ++ t198).size + 1 ≤ 9223372036854775807 then ((strconv_Itoa.f x191003).bind fun t199 => (if (((x3 ++ (⟨#[32]⟩ : ByteArray)) ++ t198) ++ (⟨#[32]⟩ : ByteArray)).size + t199.size ≤ 9223372036854775807 then (some ((((x3 ++ (⟨#[32]⟩ : ByteArray)) ++ t198) ++ (⟨#[32]⟩ : ByteArray)) ++ t199)) else (none))) else (none)) else (none))) else (none)) else (some x3)
end
def impl_editText.f (k : Nat) (a0_0 : Int) (a0_1 : Int) (a0_2 : Int) (a0_3 : Int) (a0_4 : ByteArray) : Option (ByteArray) := (impl_editWords.f).bind fun t191 => (if 0 ≤ a0_0 then (if a0_0 < (t191.length : Int) then (if (rdOf ByteArray.empty t191 a0_0).size + 1 ≤ 9223372036854775807 then ((strconv_Itoa.f a0_1).bind fun t195 => (if ((rdOf ByteArray.empty t191 a0_0) ++ (⟨#[32]⟩ : ByteArray)).size + t195.size ≤ 9223372036854775807 then (if a0_0 = 3 then (if a0_4.toList = ([] : List UInt8) then (if (((rdOf ByteArray.empty t191 a0_0) ++ (⟨#[32]⟩ : ByteArray)) ++ t195).size + 2 ≤ 9223372036854775807 then (some ((((rdOf ByteArray.empty t191 a0_0) ++ (⟨#[32]⟩ : ByteArray)) ++ t195) ++ (⟨#[32, 45]⟩ : ByteArray))) else (none)) else (if (((rdOf ByteArray.empty t191 a0_0) ++ (⟨#[32]⟩ : ByteArray)) ++ t195).size + 1 ≤ 9223372036854775807 then ((impl_hexOf.f k a0_4).bind fun t196 => (if ((((rdOf ByteArray.empty t191 a0_0) ++ (⟨#[32]⟩ : ByteArray)) ++ t195) ++ (⟨#[32]⟩ : ByteArray)).size + t196.size ≤ 9223372036854775807 then (some (((((rdOf ByteArray.empty t191 a0_0) ++ (⟨#[32]⟩ : ByteArray)) ++ t195) ++ (⟨#[32]⟩ : ByteArray)) ++ t196)) else (none))) else (none))) else (if a0_0 = 4 then (impl_editText.j0 k (((rdOf ByteArray.empty t191 a0_0) ++ (⟨#[32]⟩ : ByteArray)) ++ t195) a0_0 (a0_0 == 4) a0_0 a0_1 a0_2 a0_3 a0_4) else (if a0_0 = 6 then (impl_editText.j0 k (((rdOf ByteArray.empty t191 a0_0) ++ (⟨#[32]⟩ : ByteArray)) ++ t195) a0_0 (a0_0 == 6) a0_0 a0_1 a0_2 a0_3 a0_4) else (impl_editText.j0 k (((rdOf ByteArray.empty t191 a0_0) ++ (⟨#[32]⟩ : ByteArray)) ++ t195) a0_0 (a0_0 == 8) a0_0 a0_1 a0_2 a0_3 a0_4)))) else (none))) else (none)) else (none)) else (none))
def impl_editText.T1 : Bool × List (List Nat × List Nat) := (true, [([], []), ([], []), ([1], [1]), ([0, 2], [0, 2]), ([3], [3]), ([4], [4]), ([], []), ([6], [6]), ([7, 0], [7]), ([5, 8], [5, 8]), ([9, 8, 0, 1, 2, 3, 4, 5, 6, 7, 8, 9], [9])])
def impl_editText.B1 : List Nat := [0, 0, 2, 7, 15, 31, 0, 64, 193, 511, 1023]
theorem impl_editText.tab1 : rtab .any (opsOf Tryd.f38 1) = impl_editText.T1 := by kernel_rfl
theorem impl_editText.bits1 : waitsOk impl_editText.T1.2 impl_editText.B1 = true := by kernel_rfl
def impl_editText.T13 : Bool × List (List Nat × List Nat) := (true, [([], []), ([0], [0]), ([], []), ([2], [2]), ([3], [3]), ([1, 4], [1, 4]), ([5], [5]), ([], []), ([7], [7]), ([8, 4], [8]), ([6, 9], [6, 9]), ([10, 9, 0, 1, 2, 3, 4, 5, 6, 7, 8, 9, 10], [10])])
def impl_editText.B13 : List Nat := [0, 1, 0, 4, 12, 31, 63, 0, 128, 412, 1023, 2047]
theorem impl_editText.tab13 : rtab .any (opsOf Tryd.f38 13) = impl_editText.T13 := by kernel_rfl
theorem impl_editText.bits13 : waitsOk impl_editText.T13.2 impl_editText.B13 = true := by kernel_rfl
set_option maxHeartbeats 8000000 in
set_option maxRecDepth 100000 in
theorem impl_editText.calls (k : Nat) (a0_0 : Int) (a0_1 : Int) (a0_2 : Int) (a0_3 : Int) (a0_4 : ByteArray) (r : ByteArray) (w : World) (h : impl_editText.f k a0_0 a0_1 a0_2 a0_3 a0_4 = some r) (htab : Tab w := by exact Tab.below htab Xi) :
  Calls Tryd.prog 38 #[.agg #[.int .i64 a0_0, .int .i64 a0_1, .int .i64 a0_2, .int .i64 a0_3, .string a0_4]] w fun e w' => e = .returned (.string r) ∧ Below w.heap.size w w' := by
 have hu27 := Tryd.underlying27
 have HB := Aside0.mk (Below.refl w.heap.size w)
 have H : ((impl_editWords.f).bind fun t191 => (if 0 ≤ a0_0 then (if a0_0 < (t191.length : Int) then (if (rdOf ByteArray.empty t191 a0_0).size + 1 ≤ 9223372036854775807 then ((strconv_Itoa.f a0_1).bind fun t195 => (if ((rdOf ByteArray.empty t191 a0_0) ++ (⟨#[32]⟩ : ByteArray)).size + t195.size ≤ 9223372036854775807 then (if a0_0 = 3 then (if a0_4.toList = ([] : List UInt8) then (if (((rdOf ByteArray.empty t191 a0_0) ++ (⟨#[32]⟩ : ByteArray)) ++ t195).size + 2 ≤ 9223372036854775807 then (some ((((rdOf ByteArray.empty t191 a0_0) ++ (⟨#[32]⟩ : ByteArray)) ++ t195) ++ (⟨#[32, 45]⟩ : ByteArray))) else (none)) else (if (((rdOf ByteArray.empty t191 a0_0) ++ (⟨#[32]⟩ : ByteArray)) ++ t195).size + 1 ≤ 9223372036854775807 then ((impl_hexOf.f k a0_4).bind fun t196 => (if ((((rdOf ByteArray.empty t191 a0_0) ++ (⟨#[32]⟩ : ByteArray)) ++ t195) ++ (⟨#[32]⟩ : ByteArray)).size + t196.size ≤ 9223372036854775807 then (some (((((rdOf ByteArray.empty t191 a0_0) ++ (⟨#[32]⟩ : ByteArray)) ++ t195) ++ (⟨#[32]⟩ : ByteArray)) ++ t196)) else (none))) else (none))) else (if a0_0 = 4 then (impl_editText.j0 k (((rdOf ByteArray.empty t191 a0_0) ++ (⟨#[32]⟩ : ByteArray)) ++ t195) a0_0 (a0_0 == 4) a0_0 a0_1 a0_2 a0_3 a0_4) else (if a0_0 = 6 then (impl_editText.j0 k (((rdOf ByteArray.empty t191 a0_0) ++ (⟨#[32]⟩ : ByteArray)) ++ t195) a0_0 (a0_0 == 6) a0_0 a0_1 a0_2 a0_3 a0_4) else (impl_editText.j0 k (((rdOf ByteArray.empty t191 a0_0) ++ (⟨#[32]⟩ : ByteArray)) ++ t195) a0_0 (a0_0 == 8) a0_0 a0_1 a0_2 a0_3 a0_4)))) else (none))) else (none)) else (none)) else (none))) = some r := h
 clear h
 obtain ⟨t191, A2, H⟩ := Xbi H
 (try dsimp only at H)
 obtain ⟨c3, H⟩ | ⟨c3, H⟩ := Xiu H
 ·have c3b0 : decide (0 ≤ a0_0) = true := decide_eq_true c3
  clear c3
  obtain ⟨c4b0, H⟩ := Xid H
  obtain ⟨c5, H⟩ := Xif H
  have c5b0 := eq_true c5
  have c5b1 : decide ((rdOf ByteArray.empty t191 a0_0).size + 1 ≤ 9223372036854775807) = true := decide_eq_true c5
  try have c5b2 : (9223372036854775807 < (rdOf ByteArray.empty t191 a0_0).size + 1) = False := eq_false (Nat.not_lt.2 c5)
  obtain ⟨t195, A6, H⟩ := Xbi H
  (try dsimp only at H)
  obtain ⟨c7, H⟩ := Xif H
  have c7b0 := eq_true c7
  have c7b1 : decide (((rdOf ByteArray.empty t191 a0_0) ++ (⟨#[32]⟩ : ByteArray)).size + t195.size ≤ 9223372036854775807) = true := decide_eq_true c7
  try have c7b2 : (9223372036854775807 < ((rdOf ByteArray.empty t191 a0_0) ++ (⟨#[32]⟩ : ByteArray)).size + t195.size) = False := eq_false (Nat.not_lt.2 c7)
  try have c7b3 : (9223372036854775807 < (rdOf ByteArray.empty t191 a0_0).size + 1 + t195.size) = False := eq_false (Nat.not_lt.2 (by have h_ := c7; simp only [ByteArray.size_append] at h_; exact h_))
  have HC8 := Aside0.mk H
  clear H
  go_enter Tryd.func38, Tryd.ntmps38
  try go_wp2_with (first | ((with_reducible refine gate_dst (N := 1) rfl ?_); refine Xbox 1 #[.int .i64 a0_0, .int .i64 a0_1, .int .i64 a0_2, .int .i64 a0_3, .string a0_4] 27 ?_; intro gb190 hg w9 hbox hb; have BK190 := Aside0.mk (hbox); have GE190 := Xge hg Xi; replace HB := Aside0.mk (below_step Xi hb); clear hb hbox hg))
  replace BK190 := Aside0.mk (blk_drew BK190.out)
  replace HB := Aside0.mk (below_drew1 HB.out)
  refine start_ (n := 11) (S := fun w' => w'.cell? ⟨gb190, 0, none⟩ = some (.int .i64 a0_0) ∧ w'.cell? ⟨gb190, 1, none⟩ = some (.int .i64 a0_1) ∧ w'.cell? ⟨gb190, 2, none⟩ = some (.int .i64 a0_2) ∧ w'.cell? ⟨gb190, 3, none⟩ = some (.int .i64 a0_3) ∧ w'.cell? ⟨gb190, 4, none⟩ = some (.string a0_4)) (ds := []) #[false, false, false, false, false, false, false, false, false, false, false] (by kernel_rfl) rfl rfl ⟨(blk_cell BK190.out 0).trans rfl, (blk_cell BK190.out 1).trans rfl, (blk_cell BK190.out 2).trans rfl, (blk_cell BK190.out 3).trans rfl, (blk_cell BK190.out 4).trans rfl⟩ (fun hHeld => ?_); refine with_tabW impl_editText.tab1 impl_editText.bits1 (fun HT_ HW_ => ?_)
  generalize w9.drew = w10 at BK190 HB hHeld ⊢
  refine Xpu 1 5 (XW.bs 11 2) HT_.out ?_
  refine Xpu 6 10 (XW.bs 11 66) HT_.out ?_
  refine Xta 2 6 (XW.bs 11 70) HT_.out HW_.out hHeld ?_
  refine Xta 7 11 (XW.bs 11 198) HT_.out HW_.out hHeld ?_
  refine one_ (i := 0) (N := some 4) (XW.bs 11 199) rfl rfl (one_of HT_.out (by kernel_rfl)) (by decide) (fun K hK => ?_)
  refine goes_ Tryd.func69 (by kernel_rfl) rfl #[] (by rfl) rfl rfl (by (try simp only [List.map_toArray, List.map_cons, List.map_nil]); first | done | rfl | (simp only [List.length_drop, List.length_take]; rfl)) ?_
  with_reducible refine (impl_editWords.calls  t191 _ A2.out).mono ?_
  rintro e w11 ⟨v192, rfl, ho0, hb⟩
  refine ⟨_, rfl, ?_⟩
  have HO193 := Aside0.mk (Kd.R_lower ho0 (below_size Xi))
  replace BK190 := Xbb BK190 hb
  replace HB := Aside0.mk (below_step Xi hb)
  (try clear hb)
  (try clear hb2)
  (try clear hk)
  (try clear hi)
  (try clear ho0)
  obtain ⟨Ao12, co12, eo12⟩ := Kd.R_slice HO193.out
  (first | subst eo12 | (injection eo12 with f1_ f2_ f3_; have f4_ := f1_.symm; have f5_ := f3_.symm; clear f1_ f2_ f3_; subst f4_; subst f5_))
  have p194 : 0 ≤ (a0_0 : Int) := of_decide_eq_true Xa
  have q194 : a0_0 < (t191.length : Int) := of_decide_eq_true Xa
  obtain ⟨ad194, e194, hx194_0⟩ := Kd.at_string (Kd.R_reads' HO193.out).2.2 a0_0 p194 q194
  cases e194
  replace p194 := eq_true p194
  replace q194 := eq_true q194
  refine hK.out _ _ ⟨(blk_cell BK190.out 0).trans rfl, (blk_cell BK190.out 1).trans rfl, (blk_cell BK190.out 2).trans rfl, (blk_cell BK190.out 3).trans rfl, (blk_cell BK190.out 4).trans rfl⟩ (fun hHeld => ?_)
  refine XW.last_more (S' := fun w' => w'.cell? ⟨gb190, 0, none⟩ = some (.int .i64 a0_0) ∧ w'.cell? ⟨gb190, 1, none⟩ = some (.int .i64 a0_1) ∧ w'.cell? ⟨gb190, 2, none⟩ = some (.int .i64 a0_2) ∧ w'.cell? ⟨gb190, 3, none⟩ = some (.int .i64 a0_3) ∧ w'.cell? ⟨gb190, 4, none⟩ = some (.string a0_4) ∧ w'.cell? (ad194.add (a0_0).toNat) = some (.string (rdOf ByteArray.empty t191 a0_0))) (fun _ h => ⟨h.1, h.2.1, h.2.2.1, h.2.2.2.1, h.2.2.2.2.1⟩) (fun hHeld => ?_) ⟨(blk_cell BK190.out 0).trans rfl, (blk_cell BK190.out 1).trans rfl, (blk_cell BK190.out 2).trans rfl, (blk_cell BK190.out 3).trans rfl, (blk_cell BK190.out 4).trans rfl, hx194_0⟩
  clear hK K
  refine Xno ?_
  refine Xpu 3 7 (XW.bs 11 207) HT_.out ?_
  refine Xta 4 8 (XW.bs 11 223) HT_.out HW_.out hHeld ?_
  refine Xpu 5 9 (XW.bs 11 255) HT_.out ?_
  refine one_ (i := 8) (N := some 12) (XW.bs 11 511) rfl rfl (one_of HT_.out (by kernel_rfl)) (by decide) (fun K hK => ?_)
  refine goes_ Tryd.func70 (by kernel_rfl) rfl #[.int .i64 a0_1] (by rfl) rfl rfl (by (try simp only [List.map_toArray, List.map_cons, List.map_nil]); first | done | rfl | (simp only [List.length_drop, List.length_take]; rfl)) ?_
  with_reducible refine (strconv_Itoa.calls a0_1 t195 _ A6.out).mono ?_
  rintro e w13 ⟨rfl, hb⟩
  have HS5_ := (hb.cell (World.block_lt_of_cell? _ _ (hHeld.2.2.2.2.2))).trans (hHeld.2.2.2.2.2)
  refine ⟨_, rfl, ?_⟩
  replace HO193 := Aside0.mk (Kd.R_below (Xq HO193) hb)
  replace BK190 := Xbb BK190 hb
  replace HB := Aside0.mk (below_step Xi hb)
  (try clear hb)
  (try clear hb2)
  (try clear hk)
  (try clear hi)
  refine hK.out _ _ ⟨(blk_cell BK190.out 0).trans rfl, (blk_cell BK190.out 1).trans rfl, (blk_cell BK190.out 2).trans rfl, (blk_cell BK190.out 3).trans rfl, (blk_cell BK190.out 4).trans rfl, HS5_⟩ (fun hHeld => ?_)
  clear hK K
  refine Xno ?_
  refine Xpu 9 13 (XW.bs 11 1023) HT_.out ?_
  refine Xpu 10 3 (XW.bs 11 2047) HT_.out ?_
  refine done_ (done_of HT_.out (by kernel_rfl)) ?_
  obtain ⟨hcz14_0, hcz14_1, hcz14_2, hcz14_3, hcz14_4⟩ := Xc5 BK190
  go_upto_if 16 with (fail)
  have H := HC8.out
  clear HC8
  obtain ⟨c15, H⟩ | ⟨c15, H⟩ := Xiu H
  ·have c15b0 : (a0_0 == 3) = true := beq_iff_eq.mpr c15
   have c15b1 : (a0_0 != 3) = false := bne_eq_false_iff_eq.mpr c15
   clear c15
   (first | rw [c15b0] | (simp only [i64_w, i32_w]; rw [c15b0]) | skip)
   obtain ⟨c16, H⟩ | ⟨c16, H⟩ := Xiu H
   ·have c16b0 : (a0_4.toList == ([] : List UInt8)) = true := beq_iff_eq.mpr c16
    have c16b1 : (a0_4.toList != ([] : List UInt8)) = false := bne_eq_false_iff_eq.mpr c16
    clear c16
    obtain ⟨c17, H⟩ := Xif H
    have c17b0 := eq_true c17
    have c17b1 : decide ((((rdOf ByteArray.empty t191 a0_0) ++ (⟨#[32]⟩ : ByteArray)) ++ t195).size + 2 ≤ 9223372036854775807) = true := decide_eq_true c17
    try have c17b2 : (9223372036854775807 < (((rdOf ByteArray.empty t191 a0_0) ++ (⟨#[32]⟩ : ByteArray)) ++ t195).size + 2) = False := eq_false (Nat.not_lt.2 c17)
    try have c17b3 : (9223372036854775807 < (rdOf ByteArray.empty t191 a0_0).size + 1 + t195.size + 2) = False := eq_false (Nat.not_lt.2 (by have h_ := c17; simp only [ByteArray.size_append] at h_; exact h_))
    obtain rfl := Option.some.inj H
    obtain ⟨hcz18_0, hcz18_1, hcz18_2, hcz18_3, hcz18_4⟩ := Xc5 BK190
    go_wp2
    go_ret
    exact ⟨Xe, Xi⟩
   ·have c16b0 : (a0_4.toList == ([] : List UInt8)) = false := beq_eq_false_iff_ne.mpr c16
    have c16b1 : (a0_4.toList != ([] : List UInt8)) = true := bne_iff_ne.mpr c16
    obtain ⟨c19, H⟩ := Xif H
    have c19b0 := eq_true c19
    have c19b1 : decide ((((rdOf ByteArray.empty t191 a0_0) ++ (⟨#[32]⟩ : ByteArray)) ++ t195).size + 1 ≤ 9223372036854775807) = true := decide_eq_true c19
    try have c19b2 : (9223372036854775807 < (((rdOf ByteArray.empty t191 a0_0) ++ (⟨#[32]⟩ : ByteArray)) ++ t195).size + 1) = False := eq_false (Nat.not_lt.2 c19)
    try have c19b3 : (9223372036854775807 < (rdOf ByteArray.empty t191 a0_0).size + 1 + t195.size + 1) = False := eq_false (Nat.not_lt.2 (by have h_ := c19; simp only [ByteArray.size_append] at h_; exact h_))
    obtain ⟨t196, A20, H⟩ := Xbi H
    (try dsimp only at H)
    obtain ⟨c21, H⟩ := Xif H
    have c21b0 := eq_true c21
    have c21b1 : decide (((((rdOf ByteArray.empty t191 a0_0) ++ (⟨#[32]⟩ : ByteArray)) ++ t195) ++ (⟨#[32]⟩ : ByteArray)).size + t196.size ≤ 9223372036854775807) = true := decide_eq_true c21
    try have c21b2 : (9223372036854775807 < ((((rdOf ByteArray.empty t191 a0_0) ++ (⟨#[32]⟩ : ByteArray)) ++ t195) ++ (⟨#[32]⟩ : ByteArray)).size + t196.size) = False := eq_false (Nat.not_lt.2 c21)
    try have c21b3 : (9223372036854775807 < (rdOf ByteArray.empty t191 a0_0).size + 1 + t195.size + 1 + t196.size) = False := eq_false (Nat.not_lt.2 (by have h_ := c21; simp only [ByteArray.size_append] at h_; exact h_))
    obtain rfl := Option.some.inj H
    obtain ⟨hcz22_0, hcz22_1, hcz22_2, hcz22_3, hcz22_4⟩ := Xc5 BK190
    go_wp2_with (first | ((with_reducible refine gate_callee (f := 71) rfl ?_); refine goesL_ (some 27) rfl rfl Tryd.func71 (by kernel_rfl) rfl #[.string a0_4] rfl (by (try simp only [List.map_toArray, List.map_cons, List.map_nil]); first | done | rfl | (simp only [List.length_drop, List.length_take]; rfl)) ?_; (with_reducible refine (impl_hexOf.calls k a0_4 t196 _ A20.out).mono ?_); rintro e w23 ⟨rfl, hb⟩; refine ⟨_, rfl, ?_⟩; replace HO193 := Aside0.mk (Kd.R_below (Xq HO193) hb); replace BK190 := Xbb BK190 hb; replace HB := Aside0.mk (below_step Xi hb); clear hb))
    go_ret
    exact ⟨Xe, Xi⟩
  ·have c15b0 : (a0_0 == 3) = false := beq_eq_false_iff_ne.mpr c15
   have c15b1 : (a0_0 != 3) = true := bne_iff_ne.mpr c15
   (first | rw [c15b0] | (simp only [i64_w, i32_w]; rw [c15b0]) | skip)
   have HC24 := Aside0.mk H
   clear H
   go_upto_if 29 with (fail)
   go_cut [29] (fun v29 wc => ∃ (kq : Nat) (x29_23 : Bool), v29 = .bool x29_23 ∧ Aside0 (impl_editText.j0 kq (((rdOf ByteArray.empty t191 a0_0) ++ (⟨#[32]⟩ : ByteArray)) ++ t195) a0_0 x29_23 a0_0 a0_1 a0_2 a0_3 a0_4 = some r) ∧ Aside0 (kq ≤ k) ∧ Aside0 (wc.heap[gb190]? = some (.cells #[.int .i64 a0_0, .int .i64 a0_1, .int .i64 a0_2, .int .i64 a0_3, .string a0_4] 27 (0, 0))) ∧ Aside0 (Below w.heap.size w wc))
   case first =>
    have H := HC24.out
    clear HC24
    obtain ⟨c25, H⟩ | ⟨c25, H⟩ := Xiu H
    ·have c25b0 : (a0_0 == 4) = true := beq_iff_eq.mpr c25
     have c25b1 : (a0_0 != 4) = false := bne_eq_false_iff_eq.mpr c25
     clear c25
     (first | rw [c25b0] | (simp only [i64_w, i32_w]; rw [c25b0]) | skip)
     have H' := Aside0.mk H
     clear H
     go_wp2
     go_meet
     case rel => exact ⟨_, ((a0_0 == 4)), Xr, H', Xko, BK190, ⟨Xi⟩⟩
    ·have c25b0 : (a0_0 == 4) = false := beq_eq_false_iff_ne.mpr c25
     have c25b1 : (a0_0 != 4) = true := bne_iff_ne.mpr c25
     (first | rw [c25b0] | (simp only [i64_w, i32_w]; rw [c25b0]) | skip)
     obtain ⟨c26, H⟩ | ⟨c26, H⟩ := Xiu H
     ·have c26b0 : (a0_0 == 6) = true := beq_iff_eq.mpr c26
      have c26b1 : (a0_0 != 6) = false := bne_eq_false_iff_eq.mpr c26
      clear c26
      have H' := Aside0.mk H
      clear H
      go_wp2
      go_meet
      case rel => exact ⟨_, ((a0_0 == 6)), Xr, H', Xko, BK190, ⟨Xi⟩⟩
     ·have c26b0 : (a0_0 == 6) = false := beq_eq_false_iff_ne.mpr c26
      have c26b1 : (a0_0 != 6) = true := bne_iff_ne.mpr c26
      have H' := Aside0.mk H
      clear H
      go_wp2
      go_meet
      case rel => exact ⟨_, ((a0_0 == 8)), Xr, H', Xko, BK190, ⟨Xi⟩⟩
   case rest =>
    clear HC24
    (try clear c3); (try clear c3b0); (try clear c4); (try clear c4b0); (try clear c5); (try clear c5b0); (try clear c5b1); (try clear c5b2); (try clear c7); (try clear c7b0); (try clear c7b1); (try clear c7b2); (try clear c15); (try clear c15b0); (try clear c15b1); (try clear hcz14_0); (try clear hcz14_1); (try clear hcz14_2); (try clear hcz14_3); (try clear hcz14_4); (try clear hx194_0); (try clear p194); (try clear q194)
    obtain ⟨kq, x29_23, rfl, HA, HJ23, BK190, HB⟩ := hcut
    cases kq with
    | zero => cases HA.out
    | succ kj23 =>
     have H := HA.out
     clear HA
     simp only [impl_editText.j0] at H
     by_cases c27 : x29_23 = true
     ·subst c27
      (first | rw [if_pos rfl] at H | skip)
      obtain ⟨c28, H⟩ := Xif H
      have c28b0 := eq_true c28
      have c28b1 : decide ((((rdOf ByteArray.empty t191 a0_0) ++ (⟨#[32]⟩ : ByteArray)) ++ t195).size + 1 ≤ 9223372036854775807) = true := decide_eq_true c28
      try have c28b2 : (9223372036854775807 < (((rdOf ByteArray.empty t191 a0_0) ++ (⟨#[32]⟩ : ByteArray)) ++ t195).size + 1) = False := eq_false (Nat.not_lt.2 c28)
      try have c28b3 : (9223372036854775807 < (rdOf ByteArray.empty t191 a0_0).size + 1 + t195.size + 1) = False := eq_false (Nat.not_lt.2 (by have h_ := c28; simp only [ByteArray.size_append] at h_; exact h_))
      obtain ⟨t197, A29, H⟩ := Xbi H
      (try dsimp only at H)
      obtain ⟨c30, H⟩ := Xif H
      have c30b0 := eq_true c30
      have c30b1 : decide (((((rdOf ByteArray.empty t191 a0_0) ++ (⟨#[32]⟩ : ByteArray)) ++ t195) ++ (⟨#[32]⟩ : ByteArray)).size + t197.size ≤ 9223372036854775807) = true := decide_eq_true c30
      try have c30b2 : (9223372036854775807 < ((((rdOf ByteArray.empty t191 a0_0) ++ (⟨#[32]⟩ : ByteArray)) ++ t195) ++ (⟨#[32]⟩ : ByteArray)).size + t197.size) = False := eq_false (Nat.not_lt.2 c30)
      try have c30b3 : (9223372036854775807 < (rdOf ByteArray.empty t191 a0_0).size + 1 + t195.size + 1 + t197.size) = False := eq_false (Nat.not_lt.2 (by have h_ := c30; simp only [ByteArray.size_append] at h_; exact h_))
      obtain rfl := Option.some.inj H
      obtain ⟨hcz31_0, hcz31_1, hcz31_2, hcz31_3, hcz31_4⟩ := Xc5 BK190
      go_wp2_with (first | ((with_reducible refine gate_callee (f := 70) rfl ?_); refine goesL_ (some 37) rfl rfl Tryd.func70 (by kernel_rfl) rfl #[.int .i64 a0_2] rfl (by (try simp only [List.map_toArray, List.map_cons, List.map_nil]); first | done | rfl | (simp only [List.length_drop, List.length_take]; rfl)) ?_; (with_reducible refine (strconv_Itoa.calls a0_2 t197 _ A29.out).mono ?_); rintro e w32 ⟨rfl, hb⟩; refine ⟨_, rfl, ?_⟩; replace BK190 := Xbb BK190 hb; replace HB := Aside0.mk (below_step Xi hb); clear hb))
      go_ret
      exact ⟨Xe, Xi⟩
     ·replace c27 := Bool.eq_false_iff.mpr c27
      subst c27
      (first | rw [if_neg (show ¬ (false = true) by decide)] at H | skip)
      have HC33 := Aside0.mk H
      clear H
      go_upto_if 39 with (fail)
      go_cut [39] (fun v39 wc => ∃ (kq : Nat) (x39_32 : Bool), v39 = .bool x39_32 ∧ Aside0 (impl_editText.j1 kq (((rdOf ByteArray.empty t191 a0_0) ++ (⟨#[32]⟩ : ByteArray)) ++ t195) x39_32 a0_0 a0_1 a0_2 a0_3 a0_4 = some r) ∧ Aside0 (kq ≤ kj23) ∧ Aside0 (wc.heap[gb190]? = some (.cells #[.int .i64 a0_0, .int .i64 a0_1, .int .i64 a0_2, .int .i64 a0_3, .string a0_4] 27 (0, 0))) ∧ Aside0 (Below w.heap.size w wc))
      case first =>
       have H := HC33.out
       clear HC33
       obtain ⟨c34, H⟩ | ⟨c34, H⟩ := Xiu H
       ·have c34b0 : (a0_0 == 1) = true := beq_iff_eq.mpr c34
        have c34b1 : (a0_0 != 1) = false := bne_eq_false_iff_eq.mpr c34
        clear c34
        (first | rw [c34b0] | (simp only [i64_w, i32_w]; rw [c34b0]) | skip)
        have H' := Aside0.mk H
        clear H
        go_wp2
        go_meet
        case rel => exact ⟨_, ((a0_0 == 1)), Xr, H', ⟨by have := HJ23.out; first | omega | exact Nat.le_refl _⟩, BK190, ⟨Xi⟩⟩
       ·have c34b0 : (a0_0 == 1) = false := beq_eq_false_iff_ne.mpr c34
        have c34b1 : (a0_0 != 1) = true := bne_iff_ne.mpr c34
        (first | rw [c34b0] | (simp only [i64_w, i32_w]; rw [c34b0]) | skip)
        have H' := Aside0.mk H
        clear H
        go_wp2
        go_meet
        case rel => exact ⟨_, ((a0_0 == 5)), Xr, H', ⟨by have := HJ23.out; first | omega | exact Nat.le_refl _⟩, BK190, ⟨Xi⟩⟩
      case rest =>
       clear HC33
       (try clear c3); (try clear c3b0); (try clear c4); (try clear c4b0); (try clear c5); (try clear c5b0); (try clear c5b1); (try clear c5b2); (try clear c7); (try clear c7b0); (try clear c7b1); (try clear c7b2); (try clear c15); (try clear c15b0); (try clear c15b1); (try clear c27); (try clear hcz14_0); (try clear hcz14_1); (try clear hcz14_2); (try clear hcz14_3); (try clear hcz14_4); (try clear hx194_0); (try clear p194); (try clear q194)
       obtain ⟨kq, x39_32, rfl, HA, HJ32, BK190, HB⟩ := hcut
       cases kq with
       | zero => cases HA.out
       | succ kj32 =>
        have H := HA.out
        clear HA
        simp only [impl_editText.j1] at H
        by_cases c35 : x39_32 = true
        ·subst c35
         (first | rw [if_pos rfl] at H | skip)
         obtain ⟨c36, H⟩ := Xif H
         have c36b0 := eq_true c36
         have c36b1 : decide ((((rdOf ByteArray.empty t191 a0_0) ++ (⟨#[32]⟩ : ByteArray)) ++ t195).size + 1 ≤ 9223372036854775807) = true := decide_eq_true c36
         try have c36b2 : (9223372036854775807 < (((rdOf ByteArray.empty t191 a0_0) ++ (⟨#[32]⟩ : ByteArray)) ++ t195).size + 1) = False := eq_false (Nat.not_lt.2 c36)
         try have c36b3 : (9223372036854775807 < (rdOf ByteArray.empty t191 a0_0).size + 1 + t195.size + 1) = False := eq_false (Nat.not_lt.2 (by have h_ := c36; simp only [ByteArray.size_append] at h_; exact h_))
         obtain ⟨t198, A37, H⟩ := Xbi H
         (try dsimp only at H)
         obtain ⟨c38, H⟩ := Xif H
         have c38b0 := eq_true c38
         have c38b1 : decide (((((rdOf ByteArray.empty t191 a0_0) ++ (⟨#[32]⟩ : ByteArray)) ++ t195) ++ (⟨#[32]⟩ : ByteArray)).size + t198.size ≤ 9223372036854775807) = true := decide_eq_true c38
         try have c38b2 : (9223372036854775807 < ((((rdOf ByteArray.empty t191 a0_0) ++ (⟨#[32]⟩ : ByteArray)) ++ t195) ++ (⟨#[32]⟩ : ByteArray)).size + t198.size) = False := eq_false (Nat.not_lt.2 c38)
         try have c38b3 : (9223372036854775807 < (rdOf ByteArray.empty t191 a0_0).size + 1 + t195.size + 1 + t198.size) = False := eq_false (Nat.not_lt.2 (by have h_ := c38; simp only [ByteArray.size_append] at h_; exact h_))
         obtain ⟨c39, H⟩ := Xif H
         have c39b0 := eq_true c39
         have c39b1 : decide ((((((rdOf ByteArray.empty t191 a0_0) ++ (⟨#[32]⟩ : ByteArray)) ++ t195) ++ (⟨#[32]⟩ : ByteArray)) ++ t198).size + 1 ≤ 9223372036854775807) = true := decide_eq_true c39
         try have c39b2 : (9223372036854775807 < (((((rdOf ByteArray.empty t191 a0_0) ++ (⟨#[32]⟩ : ByteArray)) ++ t195) ++ (⟨#[32]⟩ : ByteArray)) ++ t198).size + 1) = False := eq_false (Nat.not_lt.2 c39)
         try have c39b3 : (9223372036854775807 < (rdOf ByteArray.empty t191 a0_0).size + 1 + t195.size + 1 + t198.size + 1) = False := eq_false (Nat.not_lt.2 (by have h_ := c39; simp only [ByteArray.size_append] at h_; exact h_))
         obtain ⟨t199, A40, H⟩ := Xbi H
         (try dsimp only at H)
         obtain ⟨c41, H⟩ := Xif H
         have c41b0 := eq_true c41
         have c41b1 : decide (((((((rdOf ByteArray.empty t191 a0_0) ++ (⟨#[32]⟩ : ByteArray)) ++ t195) ++ (⟨#[32]⟩ : ByteArray)) ++ t198) ++ (⟨#[32]⟩ : ByteArray)).size + t199.size ≤ 9223372036854775807) = true := decide_eq_true c41
         try have c41b2 : (9223372036854775807 < ((((((rdOf ByteArray.empty t191 a0_0) ++ (⟨#[32]⟩ : ByteArray)) ++ t195) ++ (⟨#[32]⟩ : ByteArray)) ++ t198) ++ (⟨#[32]⟩ : ByteArray)).size + t199.size) = False := eq_false (Nat.not_lt.2 c41)
         try have c41b3 : (9223372036854775807 < (rdOf ByteArray.empty t191 a0_0).size + 1 + t195.size + 1 + t198.size + 1 + t199.size) = False := eq_false (Nat.not_lt.2 (by have h_ := c41; simp only [ByteArray.size_append] at h_; exact h_))
         obtain rfl := Option.some.inj H
         try go_wp2_with (fail)
         replace BK190 := Aside0.mk (blk_drew BK190.out)
         replace HB := Aside0.mk (below_drew1 HB.out)
         refine start_ (n := 12) (S := fun w' => w'.cell? ⟨gb190, 0, none⟩ = some (.int .i64 a0_0) ∧ w'.cell? ⟨gb190, 1, none⟩ = some (.int .i64 a0_1) ∧ w'.cell? ⟨gb190, 2, none⟩ = some (.int .i64 a0_2) ∧ w'.cell? ⟨gb190, 3, none⟩ = some (.int .i64 a0_3) ∧ w'.cell? ⟨gb190, 4, none⟩ = some (.string a0_4)) (ds := []) #[false, false, false, false, false, false, false, false, false, false, false, false] (by kernel_rfl) rfl rfl ⟨(blk_cell BK190.out 0).trans rfl, (blk_cell BK190.out 1).trans rfl, (blk_cell BK190.out 2).trans rfl, (blk_cell BK190.out 3).trans rfl, (blk_cell BK190.out 4).trans rfl⟩ (fun hHeld => ?_); refine with_tabW impl_editText.tab13 impl_editText.bits13 (fun HT_ HW_ => ?_)
         generalize wc.drew = w42 at BK190 HB hHeld ⊢
         refine Xpu 0 42 (XW.bs 12 1) HT_.out ?_
         refine Xpu 1 43 (XW.bs 12 3) HT_.out ?_
         refine Xpu 2 44 (XW.bs 12 7) HT_.out ?_
         refine Xpu 7 49 (XW.bs 12 135) HT_.out ?_
         refine Xta 3 45 (XW.bs 12 143) HT_.out HW_.out hHeld ?_
         refine Xta 8 50 (XW.bs 12 399) HT_.out HW_.out hHeld ?_
         refine one_ (i := 4) (N := some 46) (XW.bs 12 415) rfl rfl (one_of HT_.out (by kernel_rfl)) (by decide) (fun K hK => ?_)
         refine goes_ Tryd.func70 (by kernel_rfl) rfl #[.int .i64 a0_2] (by rfl) rfl rfl (by (try simp only [List.map_toArray, List.map_cons, List.map_nil]); first | done | rfl | (simp only [List.length_drop, List.length_take]; rfl)) ?_
         with_reducible refine (strconv_Itoa.calls a0_2 t198 _ A37.out).mono ?_
         rintro e w43 ⟨rfl, hb⟩
         refine ⟨_, rfl, ?_⟩
         replace BK190 := Xbb BK190 hb
         replace HB := Aside0.mk (below_step Xi hb)
         (try clear hb)
         (try clear hb2)
         (try clear hk)
         (try clear hi)
         refine hK.out _ _ ⟨(blk_cell BK190.out 0).trans rfl, (blk_cell BK190.out 1).trans rfl, (blk_cell BK190.out 2).trans rfl, (blk_cell BK190.out 3).trans rfl, (blk_cell BK190.out 4).trans rfl⟩ (fun hHeld => ?_)
         clear hK K
         refine Xno ?_
         refine Xpu 5 47 (XW.bs 12 447) HT_.out ?_
         refine Xpu 6 48 (XW.bs 12 511) HT_.out ?_
         refine one_ (i := 9) (N := some 51) (XW.bs 12 1023) rfl rfl (one_of HT_.out (by kernel_rfl)) (by decide) (fun K hK => ?_)
         refine goes_ Tryd.func70 (by kernel_rfl) rfl #[.int .i64 a0_3] (by rfl) rfl rfl (by (try simp only [List.map_toArray, List.map_cons, List.map_nil]); first | done | rfl | (simp only [List.length_drop, List.length_take]; rfl)) ?_
         with_reducible refine (strconv_Itoa.calls a0_3 t199 _ A40.out).mono ?_
         rintro e w44 ⟨rfl, hb⟩
         refine ⟨_, rfl, ?_⟩
         replace BK190 := Xbb BK190 hb
         replace HB := Aside0.mk (below_step Xi hb)
         (try clear hb)
         (try clear hb2)
         (try clear hk)
         (try clear hi)
         refine hK.out _ _ ⟨(blk_cell BK190.out 0).trans rfl, (blk_cell BK190.out 1).trans rfl, (blk_cell BK190.out 2).trans rfl, (blk_cell BK190.out 3).trans rfl, (blk_cell BK190.out 4).trans rfl⟩ (fun hHeld => ?_)
         clear hK K
         refine Xno ?_
         refine Xpu 10 52 (XW.bs 12 2047) HT_.out ?_
         refine Xpu 11 2 (XW.bs 12 4095) HT_.out ?_
         refine done_ (done_of HT_.out (by kernel_rfl)) ?_
         try go_wp2_with (fail)
         go_ret
         exact ⟨Xe, Xi⟩
        ·replace c35 := Bool.eq_false_iff.mpr c35
         subst c35
         (first | rw [if_neg (show ¬ (false = true) by decide)] at H | skip)
         obtain rfl := Option.some.inj H
         go_wp2
         go_ret
         exact ⟨Xe, Xi⟩
 ·exact absurd H (by simp)

/-! ### impl_EditText: function 11 -/
def impl_EditText.f (k : Nat) (a0_0 : Int) (a0_1 : Int) (a0_2 : Int) (a0_3 : Int) (a0_4 : ByteArray) : Option (ByteArray × Int) := (impl_EditOK.f k a0_0 a0_1 a0_2 a0_3 a0_4).bind fun t201 => (if t201 = true then ((impl_editText.f k a0_0 a0_1 a0_2 a0_3 a0_4).bind fun t202 => (some (t202, 0))) else (some ((⟨#[]⟩ : ByteArray), 1)))
set_option maxHeartbeats 8000000 in
set_option maxRecDepth 100000 in
theorem impl_EditText.calls (k : Nat) (a0_0 : Int) (a0_1 : Int) (a0_2 : Int) (a0_3 : Int) (a0_4 : ByteArray) (r1 : ByteArray) (r2 : Int) (w : World) (h : impl_EditText.f k a0_0 a0_1 a0_2 a0_3 a0_4 = some (r1, r2)) (htab : Tab w := by exact Tab.below htab Xi) :
  Calls Tryd.prog 11 #[.agg #[.int .i64 a0_0, .int .i64 a0_1, .int .i64 a0_2, .int .i64 a0_3, .string a0_4]] w fun e w' => e = .returned (.tuple #[.string r1, .int .i64 r2]) ∧ Below w.heap.size w w' := by
 have hu27 := Tryd.underlying27
 have HB := Aside0.mk (Below.refl w.heap.size w)
 have H : ((impl_EditOK.f k a0_0 a0_1 a0_2 a0_3 a0_4).bind fun t201 => (if t201 = true then ((impl_editText.f k a0_0 a0_1 a0_2 a0_3 a0_4).bind fun t202 => (some (t202, 0))) else (some ((⟨#[]⟩ : ByteArray), 1)))) = some (r1, r2) := h
 clear h
 obtain ⟨t201, A2, H⟩ := Xbi H
 (try dsimp only at H)
 have HC3 := Aside0.mk H
 clear H
 go_enter Tryd.func11, Tryd.ntmps11
 go_upto_if 6 with (first | ((with_reducible refine gate_dst (N := 1) rfl ?_); refine Xbox 1 #[.int .i64 a0_0, .int .i64 a0_1, .int .i64 a0_2, .int .i64 a0_3, .string a0_4] 27 ?_; intro gb200 hg w4 hbox hb; have BK200 := Aside0.mk (hbox); have GE200 := Xge hg Xi; replace HB := Aside0.mk (below_step Xi hb); clear hb hbox hg; obtain ⟨hcz5_0, hcz5_1, hcz5_2, hcz5_3, hcz5_4⟩ := Xc5 BK200) | ((with_reducible refine gate_callee (f := 37) rfl ?_); refine goesL_ (some 5) rfl rfl Tryd.func37 (by kernel_rfl) rfl #[.agg #[.int .i64 a0_0, .int .i64 a0_1, .int .i64 a0_2, .int .i64 a0_3, .string a0_4]] rfl (by (try simp only [List.map_toArray, List.map_cons, List.map_nil]); first | done | rfl | (simp only [List.length_drop, List.length_take]; rfl)) ?_; (with_reducible refine (impl_EditOK.calls k a0_0 a0_1 a0_2 a0_3 a0_4 t201 _ A2.out).mono ?_); rintro e w6 ⟨rfl, hb⟩; refine ⟨_, rfl, ?_⟩; replace BK200 := Xbb BK200 hb; replace HB := Aside0.mk (below_step Xi hb); clear hb))
 have H := HC3.out
 clear HC3
 by_cases c7 : t201 = true
 ·subst c7
  (first | rw [if_pos rfl] at H | skip)
  obtain ⟨t202, A8, H⟩ := Xbi H
  (try dsimp only at H)
  simp only [Option.some.injEq, Prod.mk.injEq] at H
  obtain ⟨rfl, rfl⟩ := H
  obtain ⟨hcz9_0, hcz9_1, hcz9_2, hcz9_3, hcz9_4⟩ := Xc5 BK200
  go_wp2_with (first | ((with_reducible refine gate_callee (f := 38) rfl ?_); refine goesL_ (some 8) rfl rfl Tryd.func38 (by kernel_rfl) rfl #[.agg #[.int .i64 a0_0, .int .i64 a0_1, .int .i64 a0_2, .int .i64 a0_3, .string a0_4]] rfl (by (try simp only [List.map_toArray, List.map_cons, List.map_nil]); first | done | rfl | (simp only [List.length_drop, List.length_take]; rfl)) ?_; (with_reducible refine (impl_editText.calls k a0_0 a0_1 a0_2 a0_3 a0_4 t202 _ A8.out).mono ?_); rintro e w10 ⟨rfl, hb⟩; refine ⟨_, rfl, ?_⟩; replace BK200 := Xbb BK200 hb; replace HB := Aside0.mk (below_step Xi hb); clear hb))
  go_ret2
  exact ⟨Xe, Xi⟩
 ·replace c7 := Bool.eq_false_iff.mpr c7
  subst c7
  (first | rw [if_neg (show ¬ (false = true) by decide)] at H | skip)
  simp only [Option.some.injEq, Prod.mk.injEq] at H
  obtain ⟨rfl, rfl⟩ := H
  go_wp2
  go_ret2
  exact ⟨Xe, Xi⟩

end Go.Proofs.YtomlmcimlojmoaaDoor.XA
