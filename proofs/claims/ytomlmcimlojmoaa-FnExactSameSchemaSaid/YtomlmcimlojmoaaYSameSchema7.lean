/- Contracts of the program's functions: each Go function that is named below comes to what its Lean function says. Written by xprint.py (a program of this session's, over the kit's print). Conditions: each contract's own premises. -/
import Derived.Test.YtomlmcimlojmoaaYSameSchema0
import Derived.Test.YtomlmcimlojmoaaYSameSchema6
namespace Go.Proofs.Ytomlmcimlojmoaa.XA
open Go.RowKit Go.Proofs.YtomlmcimlojmoaaW.PrintWords Go.Proofs.YtomlmcimlojmoaaW.PrintLast Go.Proofs.YtomlmcimlojmoaaW.PrintMore XW
attribute [local go_sem] max2_int min2_int max_two min_two max_three min_three max_four min_four   -- for this text's walks alone
set_option linter.unusedVariables false
set_option linter.unusedSimpArgs false

/-! ### slices_Equal_int_int: function 170 -/
def slices_Equal_int_int.l0 : Nat → List Int → List Int → Int → Int → Option (Bool)
 | 0, _, _, _, _ => none
 | k + 1, x0, x1, x12, x13 => if x13 < x12 then (if 0 ≤ x13 then (if x13 < (x0.length : Int) then (if x13 < (x1.length : Int) then (if (rd x0 x13) = (rd x1 x13) then (slices_Equal_int_int.l0 k x0 x1 x12 (wrap64 (x13 + 1))) else (some false)) else (none)) else (none)) else (none)) else (some true)
def slices_Equal_int_int.f (k : Nat) (l0 : List Int) (l1 : List Int) : Option (Bool) := if (l0.length : Int) = (l1.length : Int) then (slices_Equal_int_int.l0 k l0 l1 (l0.length : Int) 0) else (some false)
set_option maxHeartbeats 8000000 in
set_option maxRecDepth 100000 in
theorem slices_Equal_int_int.calls (k : Nat) (A0 : Option Addr) (c0 : Nat) (l0 : List Int) (A1 : Option Addr) (c1 : Nat) (l1 : List Int) (r : Bool) (w : World) (hr0 : Kd.C (Kd.int .i64) w A0 l0.length l0) (hc0 : l0.length ≤ c0) (hr1 : Kd.C (Kd.int .i64) w A1 l1.length l1) (hc1 : l1.length ≤ c1) (h : slices_Equal_int_int.f k l0 l1 = some r) :
  Calls Try.prog 170 #[.slice A0 l0.length c0, .slice A1 l1.length c1] w fun e w' => e = .returned (.bool r) ∧ Drawn0 w w' := by
 have HR0 := Aside0.mk hr0
 have HC0 := Aside0.mk hc0
 clear hr0 hc0
 have HR1 := Aside0.mk hr1
 have HC1 := Aside0.mk hc1
 clear hr1 hc1
 have H : (if (l0.length : Int) = (l1.length : Int) then (slices_Equal_int_int.l0 k l0 l1 (l0.length : Int) 0) else (some false)) = some r := h
 clear h
 obtain ⟨c3, H⟩ | ⟨c3, H⟩ := Xiu H
 ·have c3b0 : ((l0.length : Int) == (l1.length : Int)) = true := beq_iff_eq.mpr c3
  have c3b1 : ((l0.length : Int) != (l1.length : Int)) = false := bne_eq_false_iff_eq.mpr c3
  have c3b2 : (l0.length == l1.length) = true := by first | simpa using c3 | (simp at c3 ⊢; omega)
  clear c3
  have H' := Aside0.mk H
  clear H
  go_enter Try.func170, Try.ntmps170
  go_wp2
  repeat (go_quiet (fail); try go_wp2)
  go_loopg [13] k (fun kq v13 w' => ∃ (x13_1 : Int), v13 = .int .i64 x13_1 ∧ Aside0 (slices_Equal_int_int.l0 kq l0 l1 (l0.length : Int) x13_1 = some r) ∧ Aside0 (kq ≤ k) ∧ Drawn0 w w')
  case atStart => exact ⟨(0), Xr, H', Xkr, by repeat (first | exact Drawn0.refl _ | apply Drawn0.step)⟩
  case round =>
   clear H'
   (try clear c1); (try clear c3); (try clear c3b0); (try clear c3b1); (try clear c3b2)
   obtain ⟨x13_1, rfl, HA, HK1, ⟨m1, rfl⟩⟩ := hrel
   cases gk with
   | zero => cases HA.out
   | succ k1 =>
    have H := HA.out
    clear HA
    simp only [slices_Equal_int_int.l0] at H
    obtain ⟨c4b0, H⟩ | ⟨c4b0, H⟩ := Xit H
    ·obtain ⟨c5b0, H⟩ := Xid H
     obtain ⟨c6b0, H⟩ := Xid H
     obtain ⟨c7b0, H⟩ := Xid H
     obtain ⟨c8, H⟩ | ⟨c8, H⟩ := Xiu H
     ·have c8b0 : ((rd l0 x13_1) == (rd l1 x13_1)) = true := beq_iff_eq.mpr c8
      have c8b1 : ((rd l0 x13_1) != (rd l1 x13_1)) = false := bne_eq_false_iff_eq.mpr c8
      clear c8
      have H' := Aside0.mk H
      clear H
      have p241 : 0 ≤ (x13_1 : Int) := of_decide_eq_true Xa
      have q241 : x13_1 < (l0.length : Int) := of_decide_eq_true Xa
      obtain ⟨ad241, e241, hx241_0⟩ := Kd.at_int HR0.out x13_1 p241 q241
      cases e241
      replace p241 := eq_true p241
      replace q241 := eq_true q241
      have p242 : 0 ≤ (x13_1 : Int) := of_decide_eq_true Xa
      have q242 : x13_1 < (l1.length : Int) := of_decide_eq_true Xa
      obtain ⟨ad242, e242, hx242_0⟩ := Kd.at_int HR1.out x13_1 p242 q242
      cases e242
      replace p242 := eq_true p242
      replace q242 := eq_true q242
      go_wp2
      repeat (go_quiet (fail); try go_wp2)
      go_roundg k1
      case measure => have := HK1.out; omega
      case rel => exact ⟨(wrap64 (x13_1 + 1)), Xr, H', Xk1, by repeat (first | exact Drawn0.refl _ | apply Drawn0.step)⟩
     ·have c8b0 : ((rd l0 x13_1) == (rd l1 x13_1)) = false := beq_eq_false_iff_ne.mpr c8
      have c8b1 : ((rd l0 x13_1) != (rd l1 x13_1)) = true := bne_iff_ne.mpr c8
      obtain rfl := Option.some.inj H
      have p241 : 0 ≤ (x13_1 : Int) := of_decide_eq_true Xa
      have q241 : x13_1 < (l0.length : Int) := of_decide_eq_true Xa
      obtain ⟨ad241, e241, hx241_0⟩ := Kd.at_int HR0.out x13_1 p241 q241
      cases e241
      replace p241 := eq_true p241
      replace q241 := eq_true q241
      have p242 : 0 ≤ (x13_1 : Int) := of_decide_eq_true Xa
      have q242 : x13_1 < (l1.length : Int) := of_decide_eq_true Xa
      obtain ⟨ad242, e242, hx242_0⟩ := Kd.at_int HR1.out x13_1 p242 q242
      cases e242
      replace p242 := eq_true p242
      replace q242 := eq_true q242
      go_wp2
      repeat (go_quiet (fail); try go_wp2)
      go_ret
      exact ⟨Xr, Xdr⟩
    ·obtain rfl := Option.some.inj H
     go_wp2
     repeat (go_quiet (fail); try go_wp2)
     go_ret
     exact ⟨Xr, Xdr⟩
 ·have c3b0 : ((l0.length : Int) == (l1.length : Int)) = false := beq_eq_false_iff_ne.mpr c3
  have c3b1 : ((l0.length : Int) != (l1.length : Int)) = true := bne_iff_ne.mpr c3
  have c3b2 : (l0.length == l1.length) = false := by first | simpa using c3 | (simp at c3 ⊢; omega)
  obtain rfl := Option.some.inj H
  go_enter Try.func170, Try.ntmps170
  go_wp2
  repeat (go_quiet (fail); try go_wp2)
  go_ret
  exact ⟨Xr, Xdr⟩

/-! ### impl_Term_isSame: function 151 -/
def impl_Term_isSame.f (k : Nat) (l0_0 : List Int) (a0_1 : Int) (l1_0 : List Int) (a1_1 : Int) : Option (Bool) := if a0_1 = a1_1 then ((slices_Equal_int_int.f k l0_0 l1_0).bind fun t245 => (some t245)) else (some false)
set_option maxHeartbeats 8000000 in
set_option maxRecDepth 100000 in
theorem impl_Term_isSame.calls (k : Nat) (A0_0 : Option Addr) (c0_0 : Nat) (l0_0 : List Int) (a0_1 : Int) (A1_0 : Option Addr) (c1_0 : Nat) (l1_0 : List Int) (a1_1 : Int) (r : Bool) (w : World) (hr0_0 : Kd.C (Kd.int .i64) w A0_0 l0_0.length l0_0) (hc0_0 : l0_0.length ≤ c0_0) (hr1_0 : Kd.C (Kd.int .i64) w A1_0 l1_0.length l1_0) (hc1_0 : l1_0.length ≤ c1_0) (h : impl_Term_isSame.f k l0_0 a0_1 l1_0 a1_1 = some r) :
  Calls Try.prog 151 #[.agg #[.slice A0_0 l0_0.length c0_0, .int .i64 a0_1], .agg #[.slice A1_0 l1_0.length c1_0, .int .i64 a1_1]] w fun e w' => e = .returned (.bool r) ∧ Below w.heap.size w w' := by
 have hu89 := Try.underlying89
 have HR0_0 := Aside0.mk hr0_0
 have HC0_0 := Aside0.mk hc0_0
 clear hr0_0 hc0_0
 have HR1_0 := Aside0.mk hr1_0
 have HC1_0 := Aside0.mk hc1_0
 clear hr1_0 hc1_0
 have HB := Aside0.mk (Below.refl w.heap.size w)
 have H : (if a0_1 = a1_1 then ((slices_Equal_int_int.f k l0_0 l1_0).bind fun t245 => (some t245)) else (some false)) = some r := h
 clear h
 have HC3 := Aside0.mk H
 clear H
 go_enter Try.func151, Try.ntmps151
 go_upto_region 1 with (first | ((with_reducible refine gate_dst (N := 2) rfl ?_); refine Xbox 2 #[.slice A0_0 l0_0.length c0_0, .int .i64 a0_1] 89 ?_; intro gb243 hg w4 hbox hb; have BK243 := Aside0.mk (hbox); have GE243 := Xge hg Xi; replace HB := Aside0.mk (below_step Xi hb); clear hb hbox hg) | ((with_reducible refine gate_dst (N := 3) rfl ?_); refine Xbox 3 #[.slice A1_0 l1_0.length c1_0, .int .i64 a1_1] 89 ?_; intro gb244 hg w5 hbox hb; have BK244 := Aside0.mk (hbox); have GE244 := Xge hg Xi; replace HB := Aside0.mk (below_step Xi hb); have NB243_244 := Xnb hg BK243; have NB244_243 := Xns NB243_244; replace BK243 := Xbb BK243 hb; clear hb hbox hg))
 have H := HC3.out
 clear HC3
 obtain ⟨c6, H⟩ | ⟨c6, H⟩ := Xiu H
 ·have c6b0 : (a0_1 == a1_1) = true := beq_iff_eq.mpr c6
  have c6b1 : (a0_1 != a1_1) = false := bne_eq_false_iff_eq.mpr c6
  clear c6
  obtain ⟨t245, A7, H⟩ := Xbi H
  (try dsimp only at H)
  obtain rfl := Option.some.inj H
  have hnb8 := NB243_244.out
  have hnc8 := NB244_243.out
  obtain ⟨hcz9_0, hcz9_1⟩ := Xc2 BK243
  obtain ⟨hcz10_0, hcz10_1⟩ := Xc2 BK244
  go_wp2_with (first | (go_at_call 170; (with_reducible refine (slices_Equal_int_int.calls k _ _ l0_0 _ _ l1_0 t245 _ ?side1 ?side2 ?side3 ?side4 A7.out).mono ?_); (case side1 => exact Xc HR0_0); (case side2 => exact HC0_0.out); (case side3 => exact Xc HR1_0); (case side4 => exact HC1_0.out); rintro e w' ⟨rfl, ⟨nd, rfl⟩⟩))
  go_ret
  exact ⟨Xe, Xi⟩
 ·have c6b0 : (a0_1 == a1_1) = false := beq_eq_false_iff_ne.mpr c6
  have c6b1 : (a0_1 != a1_1) = true := bne_iff_ne.mpr c6
  obtain rfl := Option.some.inj H
  have hnb11 := NB243_244.out
  have hnc11 := NB244_243.out
  obtain ⟨hcz12_0, hcz12_1⟩ := Xc2 BK243
  obtain ⟨hcz13_0, hcz13_1⟩ := Xc2 BK244
  go_wp2
  go_ret
  exact ⟨Xe, Xi⟩

/-! ### slices_EqualFunc_impl_Term_impl_Term_impl_Term_impl_Term_at_impl_Term_isSame: function 150 -/
def slices_EqualFunc_impl_Term_impl_Term_impl_Term_impl_Term_at_impl_Term_isSame.l0 : Nat → List (S89) → List (S89) → Int → Int → Option (Bool)
 | 0, _, _, _, _ => none
 | k + 1, x1, x15, x16, x17 => if x17 < x16 then (if 0 ≤ x17 then (if x17 < (x15.length : Int) then (if x17 < (x1.length : Int) then ((impl_Term_isSame.f k ((rd_T89 x15 x17).f0) ((rd_T89 x15 x17).f1) ((rd_T89 x1 x17).f0) ((rd_T89 x1 x17).f1)).bind fun t250 => (if t250 = true then (slices_EqualFunc_impl_Term_impl_Term_impl_Term_impl_Term_at_impl_Term_isSame.l0 k x1 x15 x16 (wrap64 (x17 + 1))) else (some false))) else (none)) else (none)) else (none)) else (some true)
def slices_EqualFunc_impl_Term_impl_Term_impl_Term_impl_Term_at_impl_Term_isSame.f (k : Nat) (l0 : List (S89)) (l1 : List (S89))  : Option (Bool) := if (l0.length : Int) = (l1.length : Int) then (slices_EqualFunc_impl_Term_impl_Term_impl_Term_impl_Term_at_impl_Term_isSame.l0 k l1 l0 (l0.length : Int) 0) else (some false)
set_option maxHeartbeats 8000000 in
set_option maxRecDepth 100000 in
theorem slices_EqualFunc_impl_Term_impl_Term_impl_Term_impl_Term_at_impl_Term_isSame.calls (k : Nat) (A0 : Option Addr) (c0 : Nat) (l0 : List (S89)) (A1 : Option Addr) (c1 : Nat) (l1 : List (S89))  (r : Bool) (w : World) (hr0 : Kd.C k89 w A0 l0.length l0) (hc0 : l0.length ≤ c0) (hr1 : Kd.C k89 w A1 l1.length l1) (hc1 : l1.length ≤ c1) (h : slices_EqualFunc_impl_Term_impl_Term_impl_Term_impl_Term_at_impl_Term_isSame.f k l0 l1 = some r) :
  Calls Try.prog 150 #[.slice A0 l0.length c0, .slice A1 l1.length c1, .func (.func 151) #[] #[]] w fun e w' => e = .returned (.bool r) ∧ Below w.heap.size w w' := by
 have hu89 := Try.underlying89
 have HR0 := Aside0.mk hr0
 have HC0 := Aside0.mk hc0
 clear hr0 hc0
 have HR1 := Aside0.mk hr1
 have HC1 := Aside0.mk hc1
 clear hr1 hc1
 have HB := Aside0.mk (Below.refl w.heap.size w)
 have H : (if (l0.length : Int) = (l1.length : Int) then (slices_EqualFunc_impl_Term_impl_Term_impl_Term_impl_Term_at_impl_Term_isSame.l0 k l1 l0 (l0.length : Int) 0) else (some false)) = some r := h
 clear h
 obtain ⟨c4, H⟩ | ⟨c4, H⟩ := Xiu H
 ·have c4b0 : ((l0.length : Int) == (l1.length : Int)) = true := beq_iff_eq.mpr c4
  have c4b1 : ((l0.length : Int) != (l1.length : Int)) = false := bne_eq_false_iff_eq.mpr c4
  have c4b2 : (l0.length == l1.length) = true := by first | simpa using c4 | (simp at c4 ⊢; omega)
  clear c4
  have H' := Aside0.mk H
  clear H
  go_enter Try.func150, Try.ntmps150
  go_wp2
  go_loopg [17] k (fun kq v17 w' => ∃ (x17_1 : Int), v17 = .int .i64 x17_1 ∧ Aside0 (slices_EqualFunc_impl_Term_impl_Term_impl_Term_impl_Term_at_impl_Term_isSame.l0 kq l1 l0 (l0.length : Int) x17_1 = some r) ∧ Aside0 (kq ≤ k) ∧ Aside0 (Below w.heap.size w w'))
  case atStart => exact ⟨(0), Xr, H', Xkr, ⟨Xi⟩⟩
  case round =>
   clear H'
   (try clear c1); (try clear c4); (try clear c4b0); (try clear c4b1); (try clear c4b2)
   obtain ⟨x17_1, rfl, HA, HK1, HB⟩ := hrel
   cases gk with
   | zero => cases HA.out
   | succ k1 =>
    have H := HA.out
    clear HA
    simp only [slices_EqualFunc_impl_Term_impl_Term_impl_Term_impl_Term_at_impl_Term_isSame.l0] at H
    obtain ⟨c5b0, H⟩ | ⟨c5b0, H⟩ := Xit H
    ·obtain ⟨c6b0, H⟩ := Xid H
     obtain ⟨c7b0, H⟩ := Xid H
     obtain ⟨c8b0, H⟩ := Xid H
     obtain ⟨t250, A9, H⟩ := Xbi H
     (try dsimp only at H)
     have HC10 := Aside0.mk H
     clear H
     obtain ⟨ad246, A246_0, c246_0, e246, p246, q246, hx246_0, hx246_1, HC246_0, HR246_0⟩ := at_B89 HR0 x17_1 Xa Xa HB
     cases e246
     go_upto_if 30 with (first | ((with_reducible refine gate_dst (N := 8) rfl ?_); refine Xbox 8 #[.slice none 0 0, .int .i64 0] 89 ?_; intro gb247 hg w11 hbox hb; have BK247 := Aside0.mk (hbox); have GE247 := Xge hg Xi; have GW247 := GE247; replace HB := Aside0.mk (below_step Xi hb); clear hb hbox hg; obtain ⟨hcz12_0, hcz12_1⟩ := Xc2 BK247; obtain ⟨hfz12_0, hfz12_1⟩ := Xf2 BK247; have p248 : 0 ≤ (x17_1 : Int) := of_decide_eq_true Xa; have q248 : x17_1 < (l1.length : Int) := of_decide_eq_true Xa; obtain ⟨ad248, A248_0, c248_0, e248, hx248_0, hx248_1, hl248_0, hi248_0⟩ := at_T89 HR1.out x17_1 p248 q248; cases e248; have hn248_0 : ad248.block ≠ gb247 := Nat.ne_of_lt (Nat.lt_of_lt_of_le (by have := World.block_lt_of_cell? _ _ hx248_0; first | rwa [add_block] at this | exact this) GW247.out); have hn248_1 : ad248.block ≠ gb247 := Nat.ne_of_lt (Nat.lt_of_lt_of_le (by have := World.block_lt_of_cell? _ _ hx248_0; first | rwa [add_block] at this | exact this) GW247.out); replace hx248_0 := Xm HB hx248_0; replace hx248_1 := Xm HB hx248_1; have HR248_0 := Aside0.mk hi248_0; have HC248_0 := Aside0.mk hl248_0; clear hi248_0 hl248_0; replace hx248_0 := (cell_far (p := ⟨gb247, 0, none⟩) (by first | (rw [add_block]; exact hn248_0) | (show (Addr.add _ _).block ≠ _; rw [add_block]; exact hn248_0) | exact hn248_0) (.slice A246_0 ((rd_T89 l0 x17_1).f0).length c246_0)).trans hx248_0; replace hx248_1 := (cell_far (p := ⟨gb247, 0, none⟩) (by first | (rw [add_block]; exact hn248_0) | (show (Addr.add _ _).block ≠ _; rw [add_block]; exact hn248_0) | exact hn248_0) (.slice A246_0 ((rd_T89 l0 x17_1).f0).length c246_0)).trans hx248_1; replace hx248_0 := (cell_far (p := ⟨gb247, 1, none⟩) (by first | (rw [add_block]; exact hn248_1) | (show (Addr.add _ _).block ≠ _; rw [add_block]; exact hn248_1) | exact hn248_1) (.int .i64 ((rd_T89 l0 x17_1).f1))).trans hx248_0; replace hx248_1 := (cell_far (p := ⟨gb247, 1, none⟩) (by first | (rw [add_block]; exact hn248_1) | (show (Addr.add _ _).block ≠ _; rw [add_block]; exact hn248_1) | exact hn248_1) (.int .i64 ((rd_T89 l0 x17_1).f1))).trans hx248_1; clear hn248_0; clear hn248_1; replace p248 := eq_true p248; replace q248 := eq_true q248) | ((with_reducible refine gate_dst (N := 9) rfl ?_); refine Xbox 9 #[.slice none 0 0, .int .i64 0] 89 ?_; intro gb249 hg w13 hbox hb; have BK249 := Aside0.mk (hbox); have GE249 := Xge hg Xi; replace HB := Aside0.mk (below_step Xi hb); have NB247_249 := Aside0.mk ((by rw [hg]; exact Nat.ne_of_lt (blk_lt (g := gb247) (o := .cells #[.slice A246_0 ((rd_T89 l0 x17_1).f0).length c246_0, .int .i64 ((rd_T89 l0 x17_1).f1)] 89 (0, 0)) (by (with_reducible repeat (first | refine blk_drewN ?_ _ | refine blk_drew ?_ | refine blk_alloc ?_ _)); refine blk_put (cs := #[.slice A246_0 ((rd_T89 l0 x17_1).f0).length c246_0, .int .i64 0]) ?_ 1 _ rfl; (with_reducible repeat (first | refine blk_drewN ?_ _ | refine blk_drew ?_ | refine blk_alloc ?_ _)); refine blk_put (cs := #[.slice none 0 0, .int .i64 0]) ?_ 0 _ rfl; (with_reducible repeat (first | refine blk_drewN ?_ _ | refine blk_drew ?_ | refine blk_alloc ?_ _)); exact BK247.out)) : gb247 ≠ gb249)); have NB249_247 := Aside0.mk ((by rw [hg]; exact Nat.ne_of_gt (blk_lt (g := gb247) (o := .cells #[.slice A246_0 ((rd_T89 l0 x17_1).f0).length c246_0, .int .i64 ((rd_T89 l0 x17_1).f1)] 89 (0, 0)) (by (with_reducible repeat (first | refine blk_drewN ?_ _ | refine blk_drew ?_ | refine blk_alloc ?_ _)); refine blk_put (cs := #[.slice A246_0 ((rd_T89 l0 x17_1).f0).length c246_0, .int .i64 0]) ?_ 1 _ rfl; (with_reducible repeat (first | refine blk_drewN ?_ _ | refine blk_drew ?_ | refine blk_alloc ?_ _)); refine blk_put (cs := #[.slice none 0 0, .int .i64 0]) ?_ 0 _ rfl; (with_reducible repeat (first | refine blk_drewN ?_ _ | refine blk_drew ?_ | refine blk_alloc ?_ _)); exact BK247.out)) : gb249 ≠ gb247)); replace BK247 := Aside0.mk (blk_below (g := gb247) (o := .cells #[.slice A246_0 ((rd_T89 l0 x17_1).f0).length c246_0, .int .i64 ((rd_T89 l0 x17_1).f1)] 89 (0, 0)) (by (with_reducible repeat (first | refine blk_drewN ?_ _ | refine blk_drew ?_ | refine blk_alloc ?_ _)); refine blk_put (cs := #[.slice A246_0 ((rd_T89 l0 x17_1).f0).length c246_0, .int .i64 0]) ?_ 1 _ rfl; (with_reducible repeat (first | refine blk_drewN ?_ _ | refine blk_drew ?_ | refine blk_alloc ?_ _)); refine blk_put (cs := #[.slice none 0 0, .int .i64 0]) ?_ 0 _ rfl; (with_reducible repeat (first | refine blk_drewN ?_ _ | refine blk_drew ?_ | refine blk_alloc ?_ _)); exact BK247.out) hb); clear hb hbox hg; have hnb14 := NB249_247.out; have hnc14 := NB247_249.out; obtain ⟨hcz15_0, hcz15_1⟩ := Xc2 BK249; obtain ⟨hfz15_0, hfz15_1⟩ := Xf2 BK249; obtain ⟨hcz16_0, hcz16_1⟩ := Xc2 BK247; obtain ⟨hfz16_0, hfz16_1⟩ := Xf2 BK247) | (go_at_call 151; (with_reducible refine (impl_Term_isSame.calls k1 _ _ ((rd_T89 l0 x17_1).f0) ((rd_T89 l0 x17_1).f1) _ _ ((rd_T89 l1 x17_1).f0) ((rd_T89 l1 x17_1).f1) t250 _ ?side1 ?side2 ?side3 ?side4 A9.out).mono ?_); (case side1 => exact Xc HR246_0); (case side2 => exact HC246_0.out); (case side3 => exact Xc HR248_0); (case side4 => exact HC248_0.out); rintro e w17 ⟨rfl, hb⟩; replace BK247 := Aside0.mk (blk_below (g := gb247) (o := .cells #[.slice A246_0 ((rd_T89 l0 x17_1).f0).length c246_0, .int .i64 ((rd_T89 l0 x17_1).f1)] 89 (0, 0)) (by (with_reducible repeat (first | refine blk_drewN ?_ _ | refine blk_drew ?_ | refine blk_alloc ?_ _)); refine blk_far ?_ NB247_249.out _; (with_reducible repeat (first | refine blk_drewN ?_ _ | refine blk_drew ?_ | refine blk_alloc ?_ _)); refine blk_far ?_ NB247_249.out _; (with_reducible repeat (first | refine blk_drewN ?_ _ | refine blk_drew ?_ | refine blk_alloc ?_ _)); exact BK247.out) hb); replace BK249 := Aside0.mk (blk_below (g := gb249) (o := .cells #[.slice A248_0 ((rd_T89 l1 x17_1).f0).length c248_0, .int .i64 ((rd_T89 l1 x17_1).f1)] 89 (0, 0)) (by (with_reducible repeat (first | refine blk_drewN ?_ _ | refine blk_drew ?_ | refine blk_alloc ?_ _)); refine blk_put (cs := #[.slice A248_0 ((rd_T89 l1 x17_1).f0).length c248_0, .int .i64 0]) ?_ 1 _ rfl; (with_reducible repeat (first | refine blk_drewN ?_ _ | refine blk_drew ?_ | refine blk_alloc ?_ _)); refine blk_put (cs := #[.slice none 0 0, .int .i64 0]) ?_ 0 _ rfl; (with_reducible repeat (first | refine blk_drewN ?_ _ | refine blk_drew ?_ | refine blk_alloc ?_ _)); exact BK249.out) hb); replace HB := Aside0.mk (below_step Xi hb); clear hb))
     have H := HC10.out
     clear HC10
     by_cases c18 : t250 = true
     ·subst c18
      (first | rw [if_pos rfl] at H | skip)
      have H' := Aside0.mk H
      clear H
      go_wp2
      go_roundg k1
      case measure => have := HK1.out; omega
      case rel => exact ⟨(wrap64 (x17_1 + 1)), Xr, H', Xk1, ⟨Xi⟩⟩
     ·replace c18 := Bool.eq_false_iff.mpr c18
      subst c18
      (first | rw [if_neg (show ¬ (false = true) by decide)] at H | skip)
      obtain rfl := Option.some.inj H
      go_wp2
      go_ret
      exact ⟨Xe, Xi⟩
    ·obtain rfl := Option.some.inj H
     go_wp2
     go_ret
     exact ⟨Xe, Xi⟩
 ·have c4b0 : ((l0.length : Int) == (l1.length : Int)) = false := beq_eq_false_iff_ne.mpr c4
  have c4b1 : ((l0.length : Int) != (l1.length : Int)) = true := bne_iff_ne.mpr c4
  have c4b2 : (l0.length == l1.length) = false := by first | simpa using c4 | (simp at c4 ⊢; omega)
  obtain rfl := Option.some.inj H
  go_enter Try.func150, Try.ntmps150
  go_wp2
  go_ret
  exact ⟨Xe, Xi⟩

/-! ### impl_Rule_isSame: function 103 -/
def impl_Rule_isSame.f (k : Nat) (a0_0 : ByteArray) (a0_1 : Bool) (l0_2 : List (S89)) (a1_0 : ByteArray) (a1_1 : Bool) (l1_2 : List (S89)) : Option (Bool) := if a0_0.toList = a1_0.toList then (if (a0_1 == a1_1) = true then ((slices_EqualFunc_impl_Term_impl_Term_impl_Term_impl_Term_at_impl_Term_isSame.f k l0_2 l1_2).bind fun t253 => (some t253)) else (some false)) else (some false)
set_option maxHeartbeats 8000000 in
set_option maxRecDepth 100000 in
theorem impl_Rule_isSame.calls (k : Nat) (a0_0 : ByteArray) (a0_1 : Bool) (A0_2 : Option Addr) (c0_2 : Nat) (l0_2 : List (S89)) (a1_0 : ByteArray) (a1_1 : Bool) (A1_2 : Option Addr) (c1_2 : Nat) (l1_2 : List (S89)) (r : Bool) (w : World) (hr0_2 : Kd.C k89 w A0_2 l0_2.length l0_2) (hc0_2 : l0_2.length ≤ c0_2) (hr1_2 : Kd.C k89 w A1_2 l1_2.length l1_2) (hc1_2 : l1_2.length ≤ c1_2) (h : impl_Rule_isSame.f k a0_0 a0_1 l0_2 a1_0 a1_1 l1_2 = some r) :
  Calls Try.prog 103 #[.agg #[.string a0_0, .bool a0_1, .slice A0_2 l0_2.length c0_2], .agg #[.string a1_0, .bool a1_1, .slice A1_2 l1_2.length c1_2]] w fun e w' => e = .returned (.bool r) ∧ Below w.heap.size w w' := by
 have hu80 := Try.underlying80
 have HR0_2 := Aside0.mk hr0_2
 have HC0_2 := Aside0.mk hc0_2
 clear hr0_2 hc0_2
 have HR1_2 := Aside0.mk hr1_2
 have HC1_2 := Aside0.mk hc1_2
 clear hr1_2 hc1_2
 have HB := Aside0.mk (Below.refl w.heap.size w)
 have H : (if a0_0.toList = a1_0.toList then (if (a0_1 == a1_1) = true then ((slices_EqualFunc_impl_Term_impl_Term_impl_Term_impl_Term_at_impl_Term_isSame.f k l0_2 l1_2).bind fun t253 => (some t253)) else (some false)) else (some false)) = some r := h
 clear h
 have HC3 := Aside0.mk H
 clear H
 go_enter Try.func103, Try.ntmps103
 go_upto_region 1 with (first | ((with_reducible refine gate_dst (N := 2) rfl ?_); refine Xbox 2 #[.string a0_0, .bool a0_1, .slice A0_2 l0_2.length c0_2] 80 ?_; intro gb251 hg w4 hbox hb; have BK251 := Aside0.mk (hbox); have GE251 := Xge hg Xi; replace HB := Aside0.mk (below_step Xi hb); clear hb hbox hg) | ((with_reducible refine gate_dst (N := 3) rfl ?_); refine Xbox 3 #[.string a1_0, .bool a1_1, .slice A1_2 l1_2.length c1_2] 80 ?_; intro gb252 hg w5 hbox hb; have BK252 := Aside0.mk (hbox); have GE252 := Xge hg Xi; replace HB := Aside0.mk (below_step Xi hb); have NB251_252 := Xnb hg BK251; have NB252_251 := Xns NB251_252; replace BK251 := Xbb BK251 hb; clear hb hbox hg))
 have H := HC3.out
 clear HC3
 obtain ⟨c6, H⟩ | ⟨c6, H⟩ := Xiu H
 ·have c6b0 : (a0_0.toList == a1_0.toList) = true := beq_iff_eq.mpr c6
  have c6b1 : (a0_0.toList != a1_0.toList) = false := bne_eq_false_iff_eq.mpr c6
  clear c6
  obtain ⟨c7, H⟩ | ⟨c7, H⟩ := Xiu H
  ·have c7b0 : (a0_1 == a1_1) = true := c7
   (try (have c7b1 : decide (a0_1 = a1_1) = true := by simpa using c7))
   (try (have c7b2 : (a0_1 == a1_1) = true := by simpa using c7))
   (try (have c7b3 : ((!a0_1) == a1_1) = false := by revert c7; cases a0_1 <;> cases a1_1 <;> simp))
   clear c7
   obtain ⟨t253, A8, H⟩ := Xbi H
   (try dsimp only at H)
   obtain rfl := Option.some.inj H
   have hnb9 := NB251_252.out
   have hnc9 := NB252_251.out
   obtain ⟨hcz10_0, hcz10_1, hcz10_2⟩ := Xc3 BK251
   obtain ⟨hcz11_0, hcz11_1, hcz11_2⟩ := Xc3 BK252
   go_wp2_with (first | (go_at_call 150; (with_reducible refine (slices_EqualFunc_impl_Term_impl_Term_impl_Term_impl_Term_at_impl_Term_isSame.calls k _ _ l0_2 _ _ l1_2  t253 _ ?side1 ?side2 ?side3 ?side4 A8.out).mono ?_); (case side1 => exact Xc HR0_2); (case side2 => exact HC0_2.out); (case side3 => exact Xc HR1_2); (case side4 => exact HC1_2.out); rintro e w12 ⟨rfl, hb⟩; replace BK251 := Xbb BK251 hb; replace BK252 := Xbb BK252 hb; replace HB := Aside0.mk (below_step Xi hb); clear hb))
   go_ret
   exact ⟨Xe, Xi⟩
  ·have c7b0 : (a0_1 == a1_1) = false := by simpa using c7
   (try (have c7b1 : decide (a0_1 = a1_1) = false := by simpa using c7))
   (try (have c7b2 : (a0_1 == a1_1) = false := by simpa using c7))
   (try (have c7b3 : ¬ (a0_1 = a1_1) := by simpa using c7))
   (try (have c7b4 : ((!a0_1) == a1_1) = true := by revert c7; cases a0_1 <;> cases a1_1 <;> simp))
   clear c7
   obtain rfl := Option.some.inj H
   have hnb13 := NB251_252.out
   have hnc13 := NB252_251.out
   obtain ⟨hcz14_0, hcz14_1, hcz14_2⟩ := Xc3 BK251
   obtain ⟨hcz15_0, hcz15_1, hcz15_2⟩ := Xc3 BK252
   go_wp2
   go_ret
   exact ⟨Xe, Xi⟩
 ·have c6b0 : (a0_0.toList == a1_0.toList) = false := beq_eq_false_iff_ne.mpr c6
  have c6b1 : (a0_0.toList != a1_0.toList) = true := bne_iff_ne.mpr c6
  obtain rfl := Option.some.inj H
  have hnb16 := NB251_252.out
  have hnc16 := NB252_251.out
  obtain ⟨hcz17_0, hcz17_1, hcz17_2⟩ := Xc3 BK251
  obtain ⟨hcz18_0, hcz18_1, hcz18_2⟩ := Xc3 BK252
  go_wp2
  go_ret
  exact ⟨Xe, Xi⟩

/-! ### slices_EqualFunc_impl_Rule_impl_Rule_impl_Rule_impl_Rule_at_impl_Rule_isSame: function 102 -/
def slices_EqualFunc_impl_Rule_impl_Rule_impl_Rule_impl_Rule_at_impl_Rule_isSame.l0 : Nat → List (S80) → List (S80) → Int → Int → Option (Bool)
 | 0, _, _, _, _ => none
 | k + 1, x1, x15, x16, x17 => if x17 < x16 then (if 0 ≤ x17 then (if x17 < (x15.length : Int) then (if x17 < (x1.length : Int) then ((impl_Rule_isSame.f k ((rd_T80 x15 x17).f0) ((rd_T80 x15 x17).f1) ((rd_T80 x15 x17).f2) ((rd_T80 x1 x17).f0) ((rd_T80 x1 x17).f1) ((rd_T80 x1 x17).f2)).bind fun t258 => (if t258 = true then (slices_EqualFunc_impl_Rule_impl_Rule_impl_Rule_impl_Rule_at_impl_Rule_isSame.l0 k x1 x15 x16 (wrap64 (x17 + 1))) else (some false))) else (none)) else (none)) else (none)) else (some true)
def slices_EqualFunc_impl_Rule_impl_Rule_impl_Rule_impl_Rule_at_impl_Rule_isSame.f (k : Nat) (l0 : List (S80)) (l1 : List (S80))  : Option (Bool) := if (l0.length : Int) = (l1.length : Int) then (slices_EqualFunc_impl_Rule_impl_Rule_impl_Rule_impl_Rule_at_impl_Rule_isSame.l0 k l1 l0 (l0.length : Int) 0) else (some false)
set_option maxHeartbeats 8000000 in
set_option maxRecDepth 100000 in
theorem slices_EqualFunc_impl_Rule_impl_Rule_impl_Rule_impl_Rule_at_impl_Rule_isSame.calls (k : Nat) (A0 : Option Addr) (c0 : Nat) (l0 : List (S80)) (A1 : Option Addr) (c1 : Nat) (l1 : List (S80))  (r : Bool) (w : World) (hr0 : Kd.C k80 w A0 l0.length l0) (hc0 : l0.length ≤ c0) (hr1 : Kd.C k80 w A1 l1.length l1) (hc1 : l1.length ≤ c1) (h : slices_EqualFunc_impl_Rule_impl_Rule_impl_Rule_impl_Rule_at_impl_Rule_isSame.f k l0 l1 = some r) :
  Calls Try.prog 102 #[.slice A0 l0.length c0, .slice A1 l1.length c1, .func (.func 103) #[] #[]] w fun e w' => e = .returned (.bool r) ∧ Below w.heap.size w w' := by
 have hu80 := Try.underlying80
 have HR0 := Aside0.mk hr0
 have HC0 := Aside0.mk hc0
 clear hr0 hc0
 have HR1 := Aside0.mk hr1
 have HC1 := Aside0.mk hc1
 clear hr1 hc1
 have HB := Aside0.mk (Below.refl w.heap.size w)
 have H : (if (l0.length : Int) = (l1.length : Int) then (slices_EqualFunc_impl_Rule_impl_Rule_impl_Rule_impl_Rule_at_impl_Rule_isSame.l0 k l1 l0 (l0.length : Int) 0) else (some false)) = some r := h
 clear h
 obtain ⟨c4, H⟩ | ⟨c4, H⟩ := Xiu H
 ·have c4b0 : ((l0.length : Int) == (l1.length : Int)) = true := beq_iff_eq.mpr c4
  have c4b1 : ((l0.length : Int) != (l1.length : Int)) = false := bne_eq_false_iff_eq.mpr c4
  have c4b2 : (l0.length == l1.length) = true := by first | simpa using c4 | (simp at c4 ⊢; omega)
  clear c4
  have H' := Aside0.mk H
  clear H
  go_enter Try.func102, Try.ntmps102
  go_wp2
  go_loopg [17] k (fun kq v17 w' => ∃ (x17_1 : Int), v17 = .int .i64 x17_1 ∧ Aside0 (slices_EqualFunc_impl_Rule_impl_Rule_impl_Rule_impl_Rule_at_impl_Rule_isSame.l0 kq l1 l0 (l0.length : Int) x17_1 = some r) ∧ Aside0 (kq ≤ k) ∧ Aside0 (Below w.heap.size w w'))
  case atStart => exact ⟨(0), Xr, H', Xkr, ⟨Xi⟩⟩
  case round =>
   clear H'
   (try clear c1); (try clear c4); (try clear c4b0); (try clear c4b1); (try clear c4b2)
   obtain ⟨x17_1, rfl, HA, HK1, HB⟩ := hrel
   cases gk with
   | zero => cases HA.out
   | succ k1 =>
    have H := HA.out
    clear HA
    simp only [slices_EqualFunc_impl_Rule_impl_Rule_impl_Rule_impl_Rule_at_impl_Rule_isSame.l0] at H
    obtain ⟨c5b0, H⟩ | ⟨c5b0, H⟩ := Xit H
    ·obtain ⟨c6b0, H⟩ := Xid H
     obtain ⟨c7b0, H⟩ := Xid H
     obtain ⟨c8b0, H⟩ := Xid H
     obtain ⟨t258, A9, H⟩ := Xbi H
     (try dsimp only at H)
     have HC10 := Aside0.mk H
     clear H
     obtain ⟨ad254, A254_2, c254_2, e254, p254, q254, hx254_0, hx254_1, hx254_2, HC254_2, HR254_2⟩ := at_B80 HR0 x17_1 Xa Xa HB
     cases e254
     go_upto_if 30 with (first | ((with_reducible refine gate_dst (N := 8) rfl ?_); refine Xbox 8 #[.string (⟨#[]⟩ : ByteArray), .bool false, .slice none 0 0] 80 ?_; intro gb255 hg w11 hbox hb; have BK255 := Aside0.mk (hbox); have GE255 := Xge hg Xi; replace HB := Aside0.mk (below_step Xi hb); clear hb hbox hg; obtain ⟨hcz12_0, hcz12_1, hcz12_2⟩ := Xc3 BK255; obtain ⟨hfz12_0, hfz12_1, hfz12_2⟩ := Xf3 BK255) | ((with_reducible refine gate_store (t := 80) (p := 8) rfl ?_); refine store_event (t := 80) (p := 8) (v := ?vo_w13) (w1 := (((w11.setCell ⟨gb255, 0, none⟩ (.string ((rd_T80 l0 x17_1).f0))).setCell ⟨gb255, 1, none⟩ (.bool ((rd_T80 l0 x17_1).f1))).setCell ⟨gb255, 2, none⟩ (.slice A254_2 ((rd_T80 l0 x17_1).f2).length c254_2))) ?hg ?ho ?hn ?hr ?_; (case ho => rfl); (case hg => rfl); (case hn => rfl); (case hr => first | (go_simp; done) | (go_simp; rfl)); intro w13 hw; have n0_ : Aside0 (w13.heap[gb255]? = some (.cells #[.string ((rd_T80 l0 x17_1).f0), .bool ((rd_T80 l0 x17_1).f1), .slice A254_2 ((rd_T80 l0 x17_1).f2).length c254_2] 80 (0, 0))) := ⟨(by rw [hw]; exact (by (with_reducible repeat (first | refine blk_drewN ?_ _ | refine blk_drew ?_ | refine blk_alloc ?_ _)); refine blk_put (cs := #[.string ((rd_T80 l0 x17_1).f0), .bool ((rd_T80 l0 x17_1).f1), .slice none 0 0]) ?_ 2 _ rfl; (with_reducible repeat (first | refine blk_drewN ?_ _ | refine blk_drew ?_ | refine blk_alloc ?_ _)); refine blk_put (cs := #[.string ((rd_T80 l0 x17_1).f0), .bool false, .slice none 0 0]) ?_ 1 _ rfl; (with_reducible repeat (first | refine blk_drewN ?_ _ | refine blk_drew ?_ | refine blk_alloc ?_ _)); refine blk_put (cs := #[.string (⟨#[]⟩ : ByteArray), .bool false, .slice none 0 0]) ?_ 0 _ rfl; (with_reducible repeat (first | refine blk_drewN ?_ _ | refine blk_drew ?_ | refine blk_alloc ?_ _)); exact BK255.out))⟩; have n1_ : Aside0 (Below w.heap.size w w13) := ⟨(by rw [hw]; exact Xi)⟩; clear hw; clear BK255; clear HB; have BK255 := n0_; have HB := n1_; clear n0_ n1_; have p256 : 0 ≤ (x17_1 : Int) := of_decide_eq_true Xa; have q256 : x17_1 < (l1.length : Int) := of_decide_eq_true Xa; obtain ⟨ad256, A256_2, c256_2, e256, hx256_0, hx256_1, hx256_2, hl256_2, hi256_2⟩ := at_T80 HR1.out x17_1 p256 q256; cases e256; replace hx256_0 := Xm HB hx256_0; replace hx256_1 := Xm HB hx256_1; replace hx256_2 := Xm HB hx256_2; have HR256_2 := Aside0.mk hi256_2; have HC256_2 := Aside0.mk hl256_2; clear hi256_2 hl256_2; replace p256 := eq_true p256; replace q256 := eq_true q256) | ((with_reducible refine gate_dst (N := 9) rfl ?_); refine Xbox 9 #[.string (⟨#[]⟩ : ByteArray), .bool false, .slice none 0 0] 80 ?_; intro gb257 hg w14 hbox hb; have BK257 := Aside0.mk (hbox); have GE257 := Xge hg Xi; replace HB := Aside0.mk (below_step Xi hb); have NB255_257 := Xnb hg BK255; have NB257_255 := Xns NB255_257; replace BK255 := Xbb BK255 hb; clear hb hbox hg; have hnb15 := NB257_255.out; have hnc15 := NB255_257.out; obtain ⟨hcz16_0, hcz16_1, hcz16_2⟩ := Xc3 BK257; obtain ⟨hfz16_0, hfz16_1, hfz16_2⟩ := Xf3 BK257) | ((with_reducible refine gate_store (t := 80) (p := 9) rfl ?_); refine store_event (t := 80) (p := 9) (v := ?vo_w17) (w1 := (((w14.setCell ⟨gb257, 0, none⟩ (.string ((rd_T80 l1 x17_1).f0))).setCell ⟨gb257, 1, none⟩ (.bool ((rd_T80 l1 x17_1).f1))).setCell ⟨gb257, 2, none⟩ (.slice A256_2 ((rd_T80 l1 x17_1).f2).length c256_2))) ?hg ?ho ?hn ?hr ?_; (case ho => rfl); (case hg => rfl); (case hn => rfl); (case hr => first | (go_simp; done) | (go_simp; rfl)); intro w17 hw; have n0_ : Aside0 (w17.heap[gb255]? = some (.cells #[.string ((rd_T80 l0 x17_1).f0), .bool ((rd_T80 l0 x17_1).f1), .slice A254_2 ((rd_T80 l0 x17_1).f2).length c254_2] 80 (0, 0))) := ⟨(by rw [hw]; exact (by (with_reducible repeat (first | refine blk_drewN ?_ _ | refine blk_drew ?_ | refine blk_alloc ?_ _)); refine blk_far ?_ NB255_257.out _; (with_reducible repeat (first | refine blk_drewN ?_ _ | refine blk_drew ?_ | refine blk_alloc ?_ _)); refine blk_far ?_ NB255_257.out _; (with_reducible repeat (first | refine blk_drewN ?_ _ | refine blk_drew ?_ | refine blk_alloc ?_ _)); refine blk_far ?_ NB255_257.out _; (with_reducible repeat (first | refine blk_drewN ?_ _ | refine blk_drew ?_ | refine blk_alloc ?_ _)); exact BK255.out))⟩; have n1_ : Aside0 (w17.heap[gb257]? = some (.cells #[.string ((rd_T80 l1 x17_1).f0), .bool ((rd_T80 l1 x17_1).f1), .slice A256_2 ((rd_T80 l1 x17_1).f2).length c256_2] 80 (0, 0))) := ⟨(by rw [hw]; exact (by (with_reducible repeat (first | refine blk_drewN ?_ _ | refine blk_drew ?_ | refine blk_alloc ?_ _)); refine blk_put (cs := #[.string ((rd_T80 l1 x17_1).f0), .bool ((rd_T80 l1 x17_1).f1), .slice none 0 0]) ?_ 2 _ rfl; (with_reducible repeat (first | refine blk_drewN ?_ _ | refine blk_drew ?_ | refine blk_alloc ?_ _)); refine blk_put (cs := #[.string ((rd_T80 l1 x17_1).f0), .bool false, .slice none 0 0]) ?_ 1 _ rfl; (with_reducible repeat (first | refine blk_drewN ?_ _ | refine blk_drew ?_ | refine blk_alloc ?_ _)); refine blk_put (cs := #[.string (⟨#[]⟩ : ByteArray), .bool false, .slice none 0 0]) ?_ 0 _ rfl; (with_reducible repeat (first | refine blk_drewN ?_ _ | refine blk_drew ?_ | refine blk_alloc ?_ _)); exact BK257.out))⟩; have n2_ : Aside0 (Below w.heap.size w w17) := ⟨(by rw [hw]; exact Xi)⟩; clear hw; clear BK255; clear BK257; clear HB; have BK255 := n0_; have BK257 := n1_; have HB := n2_; clear n0_ n1_ n2_; obtain ⟨hcz18_0, hcz18_1, hcz18_2⟩ := Xc3 BK255; obtain ⟨hfz18_0, hfz18_1, hfz18_2⟩ := Xf3 BK255; obtain ⟨hcz19_0, hcz19_1, hcz19_2⟩ := Xc3 BK257; obtain ⟨hfz19_0, hfz19_1, hfz19_2⟩ := Xf3 BK257) | (go_at_call 103; (with_reducible refine (impl_Rule_isSame.calls k1 ((rd_T80 l0 x17_1).f0) ((rd_T80 l0 x17_1).f1) _ _ ((rd_T80 l0 x17_1).f2) ((rd_T80 l1 x17_1).f0) ((rd_T80 l1 x17_1).f1) _ _ ((rd_T80 l1 x17_1).f2) t258 _ ?side1 ?side2 ?side3 ?side4 A9.out).mono ?_); (case side1 => exact Xc HR254_2); (case side2 => exact HC254_2.out); (case side3 => exact Xc HR256_2); (case side4 => exact HC256_2.out); rintro e w20 ⟨rfl, hb⟩; replace BK255 := Xbb BK255 hb; replace BK257 := Xbb BK257 hb; replace HB := Aside0.mk (below_step Xi hb); clear hb))
     have H := HC10.out
     clear HC10
     by_cases c21 : t258 = true
     ·subst c21
      (first | rw [if_pos rfl] at H | skip)
      have H' := Aside0.mk H
      clear H
      go_wp2
      go_roundg k1
      case measure => have := HK1.out; omega
      case rel => exact ⟨(wrap64 (x17_1 + 1)), Xr, H', Xk1, ⟨Xi⟩⟩
     ·replace c21 := Bool.eq_false_iff.mpr c21
      subst c21
      (first | rw [if_neg (show ¬ (false = true) by decide)] at H | skip)
      obtain rfl := Option.some.inj H
      go_wp2
      go_ret
      exact ⟨Xe, Xi⟩
    ·obtain rfl := Option.some.inj H
     go_wp2
     go_ret
     exact ⟨Xe, Xi⟩
 ·have c4b0 : ((l0.length : Int) == (l1.length : Int)) = false := beq_eq_false_iff_ne.mpr c4
  have c4b1 : ((l0.length : Int) != (l1.length : Int)) = true := bne_iff_ne.mpr c4
  have c4b2 : (l0.length == l1.length) = false := by first | simpa using c4 | (simp at c4 ⊢; omega)
  obtain rfl := Option.some.inj H
  go_enter Try.func102, Try.ntmps102
  go_wp2
  go_ret
  exact ⟨Xe, Xi⟩

/-! ### impl_areSame: function 51 -/
def impl_areSame.f (k : Nat) (l0 : List (S80)) (l1 : List (S80)) : Option (Bool) := (slices_EqualFunc_impl_Rule_impl_Rule_impl_Rule_impl_Rule_at_impl_Rule_isSame.f k l0 l1).bind fun t259 => (some t259)
set_option maxHeartbeats 8000000 in
set_option maxRecDepth 100000 in
theorem impl_areSame.calls (k : Nat) (A0 : Option Addr) (c0 : Nat) (l0 : List (S80)) (A1 : Option Addr) (c1 : Nat) (l1 : List (S80)) (r : Bool) (w : World) (hr0 : Kd.C k80 w A0 l0.length l0) (hc0 : l0.length ≤ c0) (hr1 : Kd.C k80 w A1 l1.length l1) (hc1 : l1.length ≤ c1) (h : impl_areSame.f k l0 l1 = some r) :
  Calls Try.prog 51 #[.slice A0 l0.length c0, .slice A1 l1.length c1] w fun e w' => e = .returned (.bool r) ∧ Below w.heap.size w w' := by
 have HR0 := Aside0.mk hr0
 have HC0 := Aside0.mk hc0
 clear hr0 hc0
 have HR1 := Aside0.mk hr1
 have HC1 := Aside0.mk hc1
 clear hr1 hc1
 have HB := Aside0.mk (Below.refl w.heap.size w)
 have H : ((slices_EqualFunc_impl_Rule_impl_Rule_impl_Rule_impl_Rule_at_impl_Rule_isSame.f k l0 l1).bind fun t259 => (some t259)) = some r := h
 clear h
 obtain ⟨t259, A3, H⟩ := Xbi H
 (try dsimp only at H)
 obtain rfl := Option.some.inj H
 go_enter Try.func51, Try.ntmps51
 go_wp2_with (first | ((with_reducible refine gate_callee (f := 102) rfl ?_); refine Xgo 7 Try.func102 #[.slice A0 l0.length c0, .slice A1 l1.length c1, .func (.func 103) #[] #[]] ?_; (with_reducible refine (slices_EqualFunc_impl_Rule_impl_Rule_impl_Rule_impl_Rule_at_impl_Rule_isSame.calls k _ _ l0 _ _ l1  t259 _ ?side1 ?side2 ?side3 ?side4 A3.out).mono ?_); (case side1 => repeat (first | exact HR0.out | (with_reducible first | refine Kd.C_alloc ?_ _ | refine Kd.C_drewN ?_ _ | refine Kd.C_drew ?_))); (case side2 => exact HC0.out); (case side3 => repeat (first | exact HR1.out | (with_reducible first | refine Kd.C_alloc ?_ _ | refine Kd.C_drewN ?_ _ | refine Kd.C_drew ?_))); (case side4 => exact HC1.out); rintro e w4 ⟨rfl, hb⟩; refine ⟨_, rfl, ?_⟩; replace HB := Aside0.mk (below_step Xi hb); clear hb))
 go_ret
 exact ⟨Xe, Xi⟩

/-! ### impl_SameSchema: function 12 -/
def impl_SameSchema.f (k : Nat) (l0 : List (S80)) (l1 : List (S80)) : Option (Bool) := (impl_SchemaOK.f k l0).bind fun t260 => (if t260 = true then ((impl_SchemaOK.f k l1).bind fun t261 => (if t261 = true then ((impl_areSame.f k l0 l1).bind fun t262 => (some t262)) else (some false))) else (some false))
set_option maxHeartbeats 8000000 in
set_option maxRecDepth 100000 in
theorem impl_SameSchema.calls (k : Nat) (A0 : Option Addr) (c0 : Nat) (l0 : List (S80)) (A1 : Option Addr) (c1 : Nat) (l1 : List (S80)) (r : Bool) (w : World) (hr0 : Kd.C k80 w A0 l0.length l0) (hc0 : l0.length ≤ c0) (hr1 : Kd.C k80 w A1 l1.length l1) (hc1 : l1.length ≤ c1) (h : impl_SameSchema.f k l0 l1 = some r) :
  Calls Try.prog 12 #[.slice A0 l0.length c0, .slice A1 l1.length c1] w fun e w' => e = .returned (.bool r) ∧ Below w.heap.size w w' := by
 have HR0 := Aside0.mk hr0
 have HC0 := Aside0.mk hc0
 clear hr0 hc0
 have HR1 := Aside0.mk hr1
 have HC1 := Aside0.mk hc1
 clear hr1 hc1
 have HB := Aside0.mk (Below.refl w.heap.size w)
 have H : ((impl_SchemaOK.f k l0).bind fun t260 => (if t260 = true then ((impl_SchemaOK.f k l1).bind fun t261 => (if t261 = true then ((impl_areSame.f k l0 l1).bind fun t262 => (some t262)) else (some false))) else (some false))) = some r := h
 clear h
 obtain ⟨t260, A3, H⟩ := Xbi H
 (try dsimp only at H)
 by_cases c4 : t260 = true
 ·subst c4
  (first | rw [if_pos rfl] at H | skip)
  obtain ⟨t261, A5, H⟩ := Xbi H
  (try dsimp only at H)
  by_cases c6 : t261 = true
  ·subst c6
   (first | rw [if_pos rfl] at H | skip)
   obtain ⟨t262, A7, H⟩ := Xbi H
   (try dsimp only at H)
   obtain rfl := Option.some.inj H
   go_enter Try.func12, Try.ntmps12
   go_wp2_with (first | ((with_reducible refine gate_callee (f := 50) rfl ?_); refine Xgo 6 Try.func50 #[.slice A0 l0.length c0] ?_; (with_reducible refine (impl_SchemaOK.calls k _ _ l0 true _ ?side1 ?side2 A3.out).mono ?_); (case side1 => repeat (first | exact HR0.out | (with_reducible first | refine Kd.C_alloc ?_ _ | refine Kd.C_drewN ?_ _ | refine Kd.C_drew ?_))); (case side2 => exact HC0.out); rintro e w8 ⟨rfl, hb⟩; refine ⟨_, rfl, ?_⟩; replace HB := Aside0.mk (below_step Xi hb); clear hb) | (go_at_call 50; (with_reducible refine (impl_SchemaOK.calls k _ _ l1 true _ ?side1 ?side2 A5.out).mono ?_); (case side1 => exact Xc HR1); (case side2 => exact HC1.out); rintro e w9 ⟨rfl, hb⟩; replace HB := Aside0.mk (below_step Xi hb); clear hb) | (go_at_call 51; (with_reducible refine (impl_areSame.calls k _ _ l0 _ _ l1 t262 _ ?side1 ?side2 ?side3 ?side4 A7.out).mono ?_); (case side1 => exact Xc HR0); (case side2 => exact HC0.out); (case side3 => exact Xc HR1); (case side4 => exact HC1.out); rintro e w10 ⟨rfl, hb⟩; replace HB := Aside0.mk (below_step Xi hb); clear hb))
   go_ret
   exact ⟨Xe, Xi⟩
  ·replace c6 := Bool.eq_false_iff.mpr c6
   subst c6
   (first | rw [if_neg (show ¬ (false = true) by decide)] at H | skip)
   obtain rfl := Option.some.inj H
   go_enter Try.func12, Try.ntmps12
   go_wp2_with (first | ((with_reducible refine gate_callee (f := 50) rfl ?_); refine Xgo 6 Try.func50 #[.slice A0 l0.length c0] ?_; (with_reducible refine (impl_SchemaOK.calls k _ _ l0 true _ ?side1 ?side2 A3.out).mono ?_); (case side1 => repeat (first | exact HR0.out | (with_reducible first | refine Kd.C_alloc ?_ _ | refine Kd.C_drewN ?_ _ | refine Kd.C_drew ?_))); (case side2 => exact HC0.out); rintro e w11 ⟨rfl, hb⟩; refine ⟨_, rfl, ?_⟩; replace HB := Aside0.mk (below_step Xi hb); clear hb) | (go_at_call 50; (with_reducible refine (impl_SchemaOK.calls k _ _ l1 false _ ?side1 ?side2 A5.out).mono ?_); (case side1 => exact Xc HR1); (case side2 => exact HC1.out); rintro e w12 ⟨rfl, hb⟩; replace HB := Aside0.mk (below_step Xi hb); clear hb))
   go_ret
   exact ⟨Xe, Xi⟩
 ·replace c4 := Bool.eq_false_iff.mpr c4
  subst c4
  (first | rw [if_neg (show ¬ (false = true) by decide)] at H | skip)
  obtain rfl := Option.some.inj H
  go_enter Try.func12, Try.ntmps12
  go_wp2_with (first | ((with_reducible refine gate_callee (f := 50) rfl ?_); refine Xgo 6 Try.func50 #[.slice A0 l0.length c0] ?_; (with_reducible refine (impl_SchemaOK.calls k _ _ l0 false _ ?side1 ?side2 A3.out).mono ?_); (case side1 => repeat (first | exact HR0.out | (with_reducible first | refine Kd.C_alloc ?_ _ | refine Kd.C_drewN ?_ _ | refine Kd.C_drew ?_))); (case side2 => exact HC0.out); rintro e w13 ⟨rfl, hb⟩; refine ⟨_, rfl, ?_⟩; replace HB := Aside0.mk (below_step Xi hb); clear hb))
  go_ret
  exact ⟨Xe, Xi⟩

end Go.Proofs.Ytomlmcimlojmoaa.XA
