/- Contracts of the program's functions: each Go function that is named below comes to what its Lean function says. Written by xprint.py (a program of this session's, over the kit's print). Conditions: each contract's own premises. -/
import Derived.Test.YtfemohapampkiaaYCopySub0
import Derived.Test.YtfemohapampkiaaYCopySub8
import Derived.Test.YtfemohapampkiaaYCopySub9
import Derived.Test.YtfemohapampkiaaYCopySubClone
namespace Go.Proofs.Ytfemohapampkiaa.XA
open Go.RowKit Go.Proofs.YtfemohapampkiaaW.PrintWords Go.Proofs.YtfemohapampkiaaW.PrintLast Go.Proofs.YtfemohapampkiaaW.PrintMore XW
attribute [local go_sem] max2_int min2_int max_two min_two max_three min_three max_four min_four   -- for this text's walks alone
set_option linter.unusedVariables false
set_option linter.unusedSimpArgs false

/-! ### impl_nodeCode: function 70 -/
def impl_nodeCode.f (k : Nat) (a0_0 : Int) (a0_1 : Int) (l0_2 : List (S88)) (a1 : Int) : Option (Int) := (impl_DocOK.f k a0_0 a0_1 l0_2).bind fun t309 => (if t309 = true then ((impl_Doc_has.f k a0_0 a0_1 l0_2 a1).bind fun t310 => (if t310 = true then (some 0) else (some 5))) else (some 1))
set_option maxHeartbeats 8000000 in
set_option maxRecDepth 100000 in
theorem impl_nodeCode.calls (k : Nat) (a0_0 : Int) (a0_1 : Int) (A0_2 : Option Addr) (c0_2 : Nat) (l0_2 : List (S88)) (a1 : Int) (r : Int) (w : World) (hr0_2 : Kd.C k88 w A0_2 l0_2.length l0_2) (hc0_2 : l0_2.length ≤ c0_2) (h : impl_nodeCode.f k a0_0 a0_1 l0_2 a1 = some r) :
  Calls Try.prog 70 #[.agg #[.int .i64 a0_0, .int .i64 a0_1, .slice A0_2 l0_2.length c0_2], .int .i64 a1] w fun e w' => e = .returned (.int .i64 r) ∧ Below w.heap.size w w' := by
 have hu29 := Try.underlying29
 have HR0_2 := Aside0.mk hr0_2
 have HC0_2 := Aside0.mk hc0_2
 clear hr0_2 hc0_2
 have HB := Aside0.mk (Below.refl w.heap.size w)
 have H : ((impl_DocOK.f k a0_0 a0_1 l0_2).bind fun t309 => (if t309 = true then ((impl_Doc_has.f k a0_0 a0_1 l0_2 a1).bind fun t310 => (if t310 = true then (some 0) else (some 5))) else (some 1))) = some r := h
 clear h
 obtain ⟨t309, A3, H⟩ := Xbi H
 (try dsimp only at H)
 have HC4 := Aside0.mk H
 clear H
 go_enter Try.func70, Try.ntmps70
 go_upto_if 5 with (first | ((with_reducible refine gate_dst (N := 2) rfl ?_); refine Xbox 2 #[.int .i64 a0_0, .int .i64 a0_1, .slice A0_2 l0_2.length c0_2] 29 ?_; intro gb308 hg w5 hbox hb; have BK308 := Aside0.mk (hbox); have GE308 := Xge hg Xi; replace HB := Aside0.mk (below_step Xi hb); clear hb hbox hg; obtain ⟨hcz6_0, hcz6_1, hcz6_2⟩ := Xc3 BK308) | ((with_reducible refine gate_callee (f := 16) rfl ?_); refine Xgo 7 Try.func16 #[.agg #[.int .i64 a0_0, .int .i64 a0_1, .slice A0_2 l0_2.length c0_2]] ?_; (with_reducible refine (impl_DocOK.calls k a0_0 a0_1 _ _ l0_2 t309 _ ?side1 ?side2 A3.out).mono ?_); (case side1 => exact Xc HR0_2); (case side2 => exact HC0_2.out); rintro e w7 ⟨rfl, hb⟩; refine ⟨_, rfl, ?_⟩; replace BK308 := Xbb BK308 hb; replace HB := Aside0.mk (below_step Xi hb); clear hb))
 have H := HC4.out
 clear HC4
 by_cases c8 : t309 = true
 ·subst c8
  (first | rw [if_pos rfl] at H | skip)
  obtain ⟨t310, A9, H⟩ := Xbi H
  (try dsimp only at H)
  have HC10 := Aside0.mk H
  clear H
  go_upto_if 9 with (first | ((with_reducible refine gate_callee (f := 61) rfl ?_); refine Xgo 11 Try.func61 #[.pointer (some ⟨gb308, 0, none⟩), .int .i64 a1] ?_; (with_reducible refine (impl_Doc_has.calls k gb308 a0_0 a0_1 A0_2 c0_2 l0_2 a1 t310 _ ?side1 ?side2 ?side3 A9.out).mono ?_); (case side1 => exact BK308.out); (case side2 => exact Xc HR0_2); (case side3 => exact HC0_2.out); rintro e w11 ⟨rfl, hb⟩; refine ⟨_, rfl, ?_⟩; replace BK308 := Xbb BK308 hb; replace HB := Aside0.mk (below_step Xi hb); clear hb))
  have H := HC10.out
  clear HC10
  by_cases c12 : t310 = true
  ·subst c12
   (first | rw [if_pos rfl] at H | skip)
   obtain rfl := Option.some.inj H
   go_wp2
   go_ret
   exact ⟨Xe, Xi⟩
  ·replace c12 := Bool.eq_false_iff.mpr c12
   subst c12
   (first | rw [if_neg (show ¬ (false = true) by decide)] at H | skip)
   obtain rfl := Option.some.inj H
   go_wp2
   go_ret
   exact ⟨Xe, Xi⟩
 ·replace c8 := Bool.eq_false_iff.mpr c8
  subst c8
  (first | rw [if_neg (show ¬ (false = true) by decide)] at H | skip)
  obtain rfl := Option.some.inj H
  go_wp2
  go_ret
  exact ⟨Xe, Xi⟩

/-! ### slices_Index_int_int: function 155 -/
def slices_Index_int_int.l0 : Nat → List Int → Int → Int → Int → Option (Int)
 | 0, _, _, _, _ => none
 | k + 1, x0, x1, x7, x8 => if x8 < x7 then (if 0 ≤ x8 then (if x8 < (x0.length : Int) then (if x1 = (rd x0 x8) then (some x8) else (slices_Index_int_int.l0 k x0 x1 x7 (wrap64 (x8 + 1)))) else (none)) else (none)) else (some (-1))
def slices_Index_int_int.f (k : Nat) (l0 : List Int) (a1 : Int) : Option (Int) := slices_Index_int_int.l0 k l0 a1 (l0.length : Int) 0
set_option maxHeartbeats 8000000 in
set_option maxRecDepth 100000 in
theorem slices_Index_int_int.calls (k : Nat) (A0 : Option Addr) (c0 : Nat) (l0 : List Int) (a1 : Int) (r : Int) (w : World) (hr0 : Kd.C (Kd.int .i64) w A0 l0.length l0) (hc0 : l0.length ≤ c0) (h : slices_Index_int_int.f k l0 a1 = some r) :
  Calls Try.prog 155 #[.slice A0 l0.length c0, .int .i64 a1] w fun e w' => e = .returned (.int .i64 r) ∧ Drawn0 w w' := by
 have HR0 := Aside0.mk hr0
 have HC0 := Aside0.mk hc0
 clear hr0 hc0
 have H : (slices_Index_int_int.l0 k l0 a1 (l0.length : Int) 0) = some r := h
 clear h
 have H' := Aside0.mk H
 clear H
 go_enter Try.func155, Try.ntmps155
 go_wp2
 go_loopg [8] k (fun kq v8 w' => ∃ (x8_1 : Int), v8 = .int .i64 x8_1 ∧ Aside0 (slices_Index_int_int.l0 kq l0 a1 (l0.length : Int) x8_1 = some r) ∧ Aside0 (kq ≤ k) ∧ Drawn0 w w')
 case atStart => exact ⟨(0), Xr, H', Xkr, by repeat (first | exact Drawn0.refl _ | apply Drawn0.step)⟩
 case round =>
  clear H'
  obtain ⟨x8_1, rfl, HA, HK1, ⟨m1, rfl⟩⟩ := hrel
  cases gk with
  | zero => cases HA.out
  | succ k1 =>
   have H := HA.out
   clear HA
   simp only [slices_Index_int_int.l0] at H
   obtain ⟨c3b0, H⟩ | ⟨c3b0, H⟩ := Xit H
   ·obtain ⟨c4b0, H⟩ := Xid H
    obtain ⟨c5b0, H⟩ := Xid H
    obtain ⟨c6, H⟩ | ⟨c6, H⟩ := Xiu H
    ·have c6b0 : (a1 == (rd l0 x8_1)) = true := beq_iff_eq.mpr c6
     have c6b1 : (a1 != (rd l0 x8_1)) = false := bne_eq_false_iff_eq.mpr c6
     clear c6
     obtain rfl := Option.some.inj H
     have p311 : 0 ≤ (x8_1 : Int) := of_decide_eq_true Xa
     have q311 : x8_1 < (l0.length : Int) := of_decide_eq_true Xa
     obtain ⟨ad311, e311, hx311_0⟩ := Kd.at_int HR0.out x8_1 p311 q311
     cases e311
     replace p311 := eq_true p311
     replace q311 := eq_true q311
     go_wp2
     go_ret
     exact ⟨Xr, Xdr⟩
    ·have c6b0 : (a1 == (rd l0 x8_1)) = false := beq_eq_false_iff_ne.mpr c6
     have c6b1 : (a1 != (rd l0 x8_1)) = true := bne_iff_ne.mpr c6
     have H' := Aside0.mk H
     clear H
     have p311 : 0 ≤ (x8_1 : Int) := of_decide_eq_true Xa
     have q311 : x8_1 < (l0.length : Int) := of_decide_eq_true Xa
     obtain ⟨ad311, e311, hx311_0⟩ := Kd.at_int HR0.out x8_1 p311 q311
     cases e311
     replace p311 := eq_true p311
     replace q311 := eq_true q311
     go_wp2
     go_roundg k1
     case measure => have := HK1.out; omega
     case rel => exact ⟨(wrap64 (x8_1 + 1)), Xr, H', Xk1, by repeat (first | exact Drawn0.refl _ | apply Drawn0.step)⟩
   ·obtain rfl := Option.some.inj H
    go_wp2
    go_ret
    exact ⟨Xr, Xdr⟩

/-! ### slices_Contains_int_int: function 131 -/
def slices_Contains_int_int.f (k : Nat) (l0 : List Int) (a1 : Int) : Option (Bool) := (slices_Index_int_int.f k l0 a1).bind fun t312 => (some (decide (t312 ≥ 0)))
set_option maxHeartbeats 8000000 in
set_option maxRecDepth 100000 in
theorem slices_Contains_int_int.calls (k : Nat) (A0 : Option Addr) (c0 : Nat) (l0 : List Int) (a1 : Int) (r : Bool) (w : World) (hr0 : Kd.C (Kd.int .i64) w A0 l0.length l0) (hc0 : l0.length ≤ c0) (h : slices_Contains_int_int.f k l0 a1 = some r) :
  Calls Try.prog 131 #[.slice A0 l0.length c0, .int .i64 a1] w fun e w' => e = .returned (.bool r) ∧ Drawn0 w w' := by
 have HR0 := Aside0.mk hr0
 have HC0 := Aside0.mk hc0
 clear hr0 hc0
 have H : ((slices_Index_int_int.f k l0 a1).bind fun t312 => (some (decide (t312 ≥ 0)))) = some r := h
 clear h
 obtain ⟨t312, A3, H⟩ := Xbi H
 (try dsimp only at H)
 obtain rfl := Option.some.inj H
 go_enter Try.func131, Try.ntmps131
 go_wp2_with (first | ((with_reducible refine gate_callee (f := 155) rfl ?_); refine Xgo 7 Try.func155 #[.slice A0 l0.length c0, .int .i64 a1] ?_; (with_reducible refine (slices_Index_int_int.calls k _ _ l0 a1 t312 _ ?side1 ?side2 A3.out).mono ?_); (case side1 => repeat (first | exact HR0.out | (with_reducible first | refine Kd.C_alloc ?_ _ | refine Kd.C_drewN ?_ _ | refine Kd.C_drew ?_))); (case side2 => exact HC0.out); rintro e w' ⟨rfl, ⟨nd, rfl⟩⟩; refine ⟨_, rfl, ?_⟩))
 go_ret
 exact ⟨Xr, Xdr⟩

/-! ### impl_Node_copied: function 132 -/
def impl_Node_copied.f (a0_0 : Int) (a0_1 : Int) (a0_2 : Int) (a0_3 : ByteArray) (l0_4 : List Int) : Option (Int × Int × Int × ByteArray × List Int) := (slices_Clone_int.f l0_4).bind fun t315 => (some (a0_0, a0_1, a0_2, a0_3, t315))
set_option maxHeartbeats 8000000 in
set_option maxRecDepth 100000 in
theorem impl_Node_copied.calls (a0_0 : Int) (a0_1 : Int) (a0_2 : Int) (a0_3 : ByteArray) (A0_4 : Option Addr) (c0_4 : Nat) (l0_4 : List Int) (r1 : Int) (r2 : Int) (r3 : Int) (r4 : ByteArray) (r5 : List Int) (w : World) (hr0_4 : Kd.C (Kd.int .i64) w A0_4 l0_4.length l0_4) (hc0_4 : l0_4.length ≤ c0_4) (h : impl_Node_copied.f a0_0 a0_1 a0_2 a0_3 l0_4 = some (r1, r2, r3, r4, r5)) :
  Calls Try.prog 132 #[.agg #[.int .i64 a0_0, .int .i64 a0_1, .int .i64 a0_2, .string a0_3, .slice A0_4 l0_4.length c0_4]] w fun e w' => ∃ v4_ : Value, e = .returned (.agg #[.int .i64 r1, .int .i64 r2, .int .i64 r3, .string r4, v4_]) ∧ Kd.R (Kd.int .i64) 3 w' w.heap.size (fun _ => True) v4_ r5 ∧ Below w.heap.size w w' := by
 have hu88 := Try.underlying88
 have HR0_4 := Aside0.mk hr0_4
 have HC0_4 := Aside0.mk hc0_4
 clear hr0_4 hc0_4
 have HB := Aside0.mk (Below.refl w.heap.size w)
 have H : ((slices_Clone_int.f l0_4).bind fun t315 => (some (a0_0, a0_1, a0_2, a0_3, t315))) = some (r1, r2, r3, r4, r5) := h
 clear h
 obtain ⟨t315, A2, H⟩ := Xbi H
 (try dsimp only at H)
 simp only [Option.some.injEq, Prod.mk.injEq] at H
 obtain ⟨rfl, rfl, rfl, rfl, rfl⟩ := H
 go_enter Try.func132, Try.ntmps132
 go_wp2_with (first | ((with_reducible refine gate_dst (N := 1) rfl ?_); refine Xbox 1 #[.int .i64 a0_0, .int .i64 a0_1, .int .i64 a0_2, .string a0_3, .slice A0_4 l0_4.length c0_4] 88 ?_; intro gb313 hg w3 hbox hb; have BK313 := Aside0.mk (hbox); have GE313 := Xge hg Xi; replace HB := Aside0.mk (below_step Xi hb); clear hb hbox hg) | ((with_reducible refine gate_dst (N := 2) rfl ?_); refine Xbox 2 #[.int .i64 0, .int .i64 0, .int .i64 0, .string (⟨#[]⟩ : ByteArray), .slice none 0 0] 88 ?_; intro gb314 hg w4 hbox hb; have BK314 := Aside0.mk (hbox); have GE314 := Xge hg Xi; replace HB := Aside0.mk (below_step Xi hb); have NB313_314 := Xnb hg BK313; have NB314_313 := Xns NB313_314; replace BK313 := Xbb BK313 hb; clear hb hbox hg; have hnb5 := NB313_314.out; have hnc5 := NB314_313.out; obtain ⟨hcz6_0, hcz6_1, hcz6_2, hcz6_3, hcz6_4⟩ := Xc5 BK313; obtain ⟨hfz6_0, hfz6_1, hfz6_2, hfz6_3, hfz6_4⟩ := Xf5 BK313) | ((with_reducible refine gate_callee (f := 161) rfl ?_); refine Xgo 5 Try.func161 #[.slice A0_4 l0_4.length c0_4] ?_; (with_reducible refine (slices_Clone_int.calls _ _ l0_4 t315 _ ?side1 ?side2 A2.out).mono ?_); (case side1 => exact Xc HR0_4); (case side2 => exact HC0_4.out); rintro e w7 ⟨v316, rfl, ho0, hb⟩; refine ⟨_, rfl, ?_⟩; have HO317 := Aside0.mk (Kd.R_lower ho0 (below_size Xi)); replace BK313 := Xbb BK313 hb; replace BK314 := Xbb BK314 hb; replace HB := Aside0.mk (below_step Xi hb); clear hb; (try clear ho0); obtain ⟨Ao8, co8, eo8⟩ := Kd.R_slice HO317.out; subst eo8; obtain ⟨hcz9_0, hcz9_1, hcz9_2, hcz9_3, hcz9_4⟩ := Xc5 BK313; obtain ⟨hfz9_0, hfz9_1, hfz9_2, hfz9_3, hfz9_4⟩ := Xf5 BK313; obtain ⟨hcz10_0, hcz10_1, hcz10_2, hcz10_3, hcz10_4⟩ := Xc5 BK314; obtain ⟨hfz10_0, hfz10_1, hfz10_2, hfz10_3, hfz10_4⟩ := Xf5 BK314) | ((with_reducible refine gate_store (t := 88) (p := 2) rfl ?_); refine store_event (t := 88) (p := 2) (v := ?vo_w11) (w1 := ((((((w7.setCell ⟨gb313, 4, none⟩ (.slice Ao8 t315.length co8)).setCell ⟨gb314, 0, none⟩ (.int .i64 a0_0)).setCell ⟨gb314, 1, none⟩ (.int .i64 a0_1)).setCell ⟨gb314, 2, none⟩ (.int .i64 a0_2)).setCell ⟨gb314, 3, none⟩ (.string a0_3)).setCell ⟨gb314, 4, none⟩ (.slice Ao8 t315.length co8))) ?hg ?ho ?hn ?hr ?_; (case ho => rfl); (case hg => rfl); (case hn => rfl); (case hr => first | (go_simp; done) | (go_simp; rfl)); intro w11 hw; have n0_ : Aside0 (Kd.R (Kd.int .i64) 3 w11 w.heap.size (fun _ => True) (.slice Ao8 t315.length co8) t315) := ⟨(by rw [hw]; exact (by (with_reducible repeat (first | apply Kd.R_alloc | apply Kd.R_drewN | apply Kd.R_drew)); exact Kd.R_mono (Kd.R_far (p := ⟨gb314, 4, none⟩) (Kd.R_far (p := ⟨gb314, 3, none⟩) (Kd.R_far (p := ⟨gb314, 2, none⟩) (Kd.R_far (p := ⟨gb314, 1, none⟩) (Kd.R_far (p := ⟨gb314, 0, none⟩) (Kd.R_far (p := ⟨gb313, 4, none⟩) (Kd.R_types (Kd.R_types HO317.out BK313.out (by decide)) BK314.out (by decide)) (fun _ hk => hk.1.2) (.slice Ao8 t315.length co8)) (fun _ hk => hk.2) (.int .i64 a0_0)) (fun _ hk => hk.2) (.int .i64 a0_1)) (fun _ hk => hk.2) (.int .i64 a0_2)) (fun _ hk => hk.2) (.string a0_3)) (fun _ hk => hk.2) (.slice Ao8 t315.length co8)) (fun _ hk => trivial)))⟩; have n1_ : Aside0 (w11.heap[gb313]? = some (.cells #[.int .i64 a0_0, .int .i64 a0_1, .int .i64 a0_2, .string a0_3, .slice Ao8 t315.length co8] 88 (0, 0))) := ⟨(by rw [hw]; exact (by (with_reducible repeat (first | refine blk_drewN ?_ _ | refine blk_drew ?_ | refine blk_alloc ?_ _)); refine blk_far ?_ NB313_314.out _; (with_reducible repeat (first | refine blk_drewN ?_ _ | refine blk_drew ?_ | refine blk_alloc ?_ _)); refine blk_far ?_ NB313_314.out _; (with_reducible repeat (first | refine blk_drewN ?_ _ | refine blk_drew ?_ | refine blk_alloc ?_ _)); refine blk_far ?_ NB313_314.out _; (with_reducible repeat (first | refine blk_drewN ?_ _ | refine blk_drew ?_ | refine blk_alloc ?_ _)); refine blk_far ?_ NB313_314.out _; (with_reducible repeat (first | refine blk_drewN ?_ _ | refine blk_drew ?_ | refine blk_alloc ?_ _)); refine blk_far ?_ NB313_314.out _; (with_reducible repeat (first | refine blk_drewN ?_ _ | refine blk_drew ?_ | refine blk_alloc ?_ _)); refine blk_put (cs := #[.int .i64 a0_0, .int .i64 a0_1, .int .i64 a0_2, .string a0_3, .slice A0_4 l0_4.length c0_4]) ?_ 4 _ rfl; (with_reducible repeat (first | refine blk_drewN ?_ _ | refine blk_drew ?_ | refine blk_alloc ?_ _)); exact BK313.out))⟩; have n2_ : Aside0 (w11.heap[gb314]? = some (.cells #[.int .i64 a0_0, .int .i64 a0_1, .int .i64 a0_2, .string a0_3, .slice Ao8 t315.length co8] 88 (0, 0))) := ⟨(by rw [hw]; exact (by (with_reducible repeat (first | refine blk_drewN ?_ _ | refine blk_drew ?_ | refine blk_alloc ?_ _)); refine blk_put (cs := #[.int .i64 a0_0, .int .i64 a0_1, .int .i64 a0_2, .string a0_3, .slice none 0 0]) ?_ 4 _ rfl; (with_reducible repeat (first | refine blk_drewN ?_ _ | refine blk_drew ?_ | refine blk_alloc ?_ _)); refine blk_put (cs := #[.int .i64 a0_0, .int .i64 a0_1, .int .i64 a0_2, .string (⟨#[]⟩ : ByteArray), .slice none 0 0]) ?_ 3 _ rfl; (with_reducible repeat (first | refine blk_drewN ?_ _ | refine blk_drew ?_ | refine blk_alloc ?_ _)); refine blk_put (cs := #[.int .i64 a0_0, .int .i64 a0_1, .int .i64 0, .string (⟨#[]⟩ : ByteArray), .slice none 0 0]) ?_ 2 _ rfl; (with_reducible repeat (first | refine blk_drewN ?_ _ | refine blk_drew ?_ | refine blk_alloc ?_ _)); refine blk_put (cs := #[.int .i64 a0_0, .int .i64 0, .int .i64 0, .string (⟨#[]⟩ : ByteArray), .slice none 0 0]) ?_ 1 _ rfl; (with_reducible repeat (first | refine blk_drewN ?_ _ | refine blk_drew ?_ | refine blk_alloc ?_ _)); refine blk_put (cs := #[.int .i64 0, .int .i64 0, .int .i64 0, .string (⟨#[]⟩ : ByteArray), .slice none 0 0]) ?_ 0 _ rfl; (with_reducible repeat (first | refine blk_drewN ?_ _ | refine blk_drew ?_ | refine blk_alloc ?_ _)); refine blk_far ?_ NB314_313.out _; (with_reducible repeat (first | refine blk_drewN ?_ _ | refine blk_drew ?_ | refine blk_alloc ?_ _)); exact BK314.out))⟩; have n3_ : Aside0 (Below w.heap.size w w11) := ⟨(by rw [hw]; exact Xi)⟩; clear hw; clear HO317; clear BK313; clear BK314; clear HB; have HO317 := n0_; have BK313 := n1_; have BK314 := n2_; have HB := n3_; clear n0_ n1_ n2_ n3_))
 refine bodyPost_ret (results_cell_row rfl _ _ gb314 88 #[.int .i64 a0_0, .int .i64 a0_1, .int .i64 a0_2, .string a0_3, .slice Ao8 t315.length co8] (0, 0) _ rfl BK314.out Try.underlying88 rfl (by kernel_rfl)) rfl ?_
 exact ⟨_, Xe, Xq HO317, Xi⟩

/-! ### impl_Doc_sub: function 74 -/
def impl_Doc_sub.l0 : Nat → List Int → List (S88) → Int → Int → Int → Int → List (S88) → Option (Int × Int × (List (S88)))
 | 0, _, _, _, _, _, _, _ => none
 | k + 1, x6, x21, x22, x23, x320000, x320001, x320002 => if x23 < x22 then (if 0 ≤ x23 then (if x23 < (x21.length : Int) then ((slices_Contains_int_int.f k x6 ((rd_T88 x21 x23).f0)).bind fun t325 => (if t325 = true then ((impl_Node_copied.f ((rd_T88 x21 x23).f0) ((rd_T88 x21 x23).f1) ((rd_T88 x21 x23).f2) ((rd_T88 x21 x23).f3) ((rd_T88 x21 x23).f4)).bind fun bt326 => (if x320002.length < 2199023255552 then (impl_Doc_sub.l0 k x6 x21 x22 (wrap64 (x23 + 1)) x320000 x320001 (x320002 ++ [(⟨bt326.1, bt326.2.1, bt326.2.2.1, bt326.2.2.2.1, bt326.2.2.2.2⟩ : S88)])) else (none))) else (impl_Doc_sub.l0 k x6 x21 x22 (wrap64 (x23 + 1)) x320000 x320001 x320002))) else (none)) else (none)) else (some (x320000, x320001, x320002))
def impl_Doc_sub.f (k : Nat) (a0_0 : Int) (a0_1 : Int) (l0_2 : List (S88)) (a1 : Int) : Option (Int × Int × (List (S88))) := (impl_Doc_order.f k a0_0 a0_1 l0_2 ([] : List Int) a1).bind fun t320 => (impl_Doc_sub.l0 k t320 l0_2 (l0_2.length : Int) 0 a1 a0_1 ([] : List (S88)))
def impl_Doc_sub.T7 : Bool × List (List Nat × List Nat) := (true, [([], []), ([0], [0]), ([], []), ([2], [2]), ([3], [3]), ([1, 4, 3], [1, 4]), ([0, 1, 2, 3, 4, 5], []), ([6, 5, 5, 0, 1, 2, 3, 4, 5], [5, 6])])
def impl_Doc_sub.B7 : List Nat := [0, 1, 0, 4, 12, 31, 63, 127]
theorem impl_Doc_sub.tab7 : rtab .any (opsOf Try.f74 7) = impl_Doc_sub.T7 := by kernel_rfl
theorem impl_Doc_sub.bits7 : waitsOk impl_Doc_sub.T7.2 impl_Doc_sub.B7 = true := by kernel_rfl
set_option maxHeartbeats 8000000 in
set_option maxRecDepth 100000 in
theorem impl_Doc_sub.calls (k : Nat) (g0_ : Nat) (a0_0 : Int) (a0_1 : Int) (A0_2 : Option Addr) (c0_2 : Nat) (l0_2 : List (S88)) (a1 : Int) (r1 : Int) (r2 : Int) (r3 : List (S88)) (w : World) (hg0_ : w.heap[g0_]? = some (.cells #[.int .i64 a0_0, .int .i64 a0_1, .slice A0_2 l0_2.length c0_2] 29 (0, 0))) (hr0_2 : Kd.C k88 w A0_2 l0_2.length l0_2) (hc0_2 : l0_2.length ≤ c0_2) (h : impl_Doc_sub.f k a0_0 a0_1 l0_2 a1 = some (r1, r2, r3)) :
  Calls Try.prog 74 #[.pointer (some ⟨g0_, 0, none⟩), .int .i64 a1] w fun e w' => ∃ v2_ : Value, e = .returned (.agg #[.int .i64 r1, .int .i64 r2, v2_]) ∧ Kd.S k88 88 w' w.heap.size (fun _ => True) v2_ r3 ∧ Below w.heap.size w w' := by
 have hu29 := Try.underlying29
 have hu88 := Try.underlying88
 have HR0_2 := Aside0.mk hr0_2
 have HC0_2 := Aside0.mk hc0_2
 clear hr0_2 hc0_2
 have BK0 := Aside0.mk hg0_
 clear hg0_
 have HB := Aside0.mk (Below.refl w.heap.size w)
 have H : ((impl_Doc_order.f k a0_0 a0_1 l0_2 ([] : List Int) a1).bind fun t320 => (impl_Doc_sub.l0 k t320 l0_2 (l0_2.length : Int) 0 a1 a0_1 ([] : List (S88)))) = some (r1, r2, r3) := h
 clear h
 obtain ⟨t320, A3, H⟩ := Xbi H
 (try dsimp only at H)
 have H' := Aside0.mk H
 clear H
 go_enter Try.func74, Try.ntmps74
 go_wp2_with (first | ((with_reducible refine gate_dst (N := 4) rfl ?_); refine Xbox 4 #[.int .i64 0, .int .i64 0, .slice none 0 0] 29 ?_; intro gb318 hg w4 hbox hb; have BK318 := Aside0.mk (hbox); have GE318 := Xge hg Xi; replace HB := Aside0.mk (below_step Xi hb); have NB0_318 := Xnb hg BK0; have NB318_0 := Xns NB0_318; replace BK0 := Xbb BK0 hb; clear hb hbox hg; have hnb5 := NB0_318.out; have hnc5 := NB318_0.out; obtain ⟨hcz6_0, hcz6_1, hcz6_2⟩ := Xc3 BK0; obtain ⟨hfz6_0, hfz6_1, hfz6_2⟩ := Xf3 BK0) | ((with_reducible refine gate_dst (N := 5) rfl ?_); refine Xbox 5 #[.int .i64 0, .int .i64 0, .slice none 0 0] 29 ?_; intro gb319 hg w7 hbox hb; have BK319 := Aside0.mk (hbox); have GE319 := Xge hg Xi; replace HB := Aside0.mk (below_step Xi hb); have NB0_319 := Xnb hg BK0; have NB319_0 := Xns NB0_319; replace BK0 := Xbb BK0 hb; have NB318_319 := Xnb hg BK318; have NB319_318 := Xns NB318_319; replace BK318 := Xbb BK318 hb; clear hb hbox hg; have hnb8 := NB319_0.out; have hnc8 := NB0_319.out; have hnb9 := NB319_318.out; have hnc9 := NB318_319.out; obtain ⟨hcz10_0, hcz10_1, hcz10_2⟩ := Xc3 BK319; obtain ⟨hfz10_0, hfz10_1, hfz10_2⟩ := Xf3 BK319) | ((with_reducible refine gate_store (t := 29) (p := 5) rfl ?_); refine store_event (t := 29) (p := 5) (v := ?vo_w11) (w1 := (((w7.setCell ⟨gb319, 0, none⟩ (.int .i64 a1)).setCell ⟨gb319, 1, none⟩ (.int .i64 a0_1)).setCell ⟨gb319, 2, none⟩ (.slice none 0 0))) ?hg ?ho ?hn ?hr ?_; (case ho => rfl); (case hg => rfl); (case hn => rfl); (case hr => first | (go_simp; done) | (go_simp; rfl)); intro w11 hw; have n0_ : Aside0 (w11.heap[g0_]? = some (.cells #[.int .i64 a0_0, .int .i64 a0_1, .slice A0_2 l0_2.length c0_2] 29 (0, 0))) := ⟨(by rw [hw]; exact (by (with_reducible repeat (first | refine blk_drewN ?_ _ | refine blk_drew ?_ | refine blk_alloc ?_ _)); refine blk_far ?_ NB0_319.out _; (with_reducible repeat (first | refine blk_drewN ?_ _ | refine blk_drew ?_ | refine blk_alloc ?_ _)); refine blk_far ?_ NB0_319.out _; (with_reducible repeat (first | refine blk_drewN ?_ _ | refine blk_drew ?_ | refine blk_alloc ?_ _)); refine blk_far ?_ NB0_319.out _; (with_reducible repeat (first | refine blk_drewN ?_ _ | refine blk_drew ?_ | refine blk_alloc ?_ _)); exact BK0.out))⟩; have n1_ : Aside0 (w11.heap[gb318]? = some (.cells #[.int .i64 0, .int .i64 0, .slice none 0 0] 29 (0, 0))) := ⟨(by rw [hw]; exact (by (with_reducible repeat (first | refine blk_drewN ?_ _ | refine blk_drew ?_ | refine blk_alloc ?_ _)); refine blk_far ?_ NB318_319.out _; (with_reducible repeat (first | refine blk_drewN ?_ _ | refine blk_drew ?_ | refine blk_alloc ?_ _)); refine blk_far ?_ NB318_319.out _; (with_reducible repeat (first | refine blk_drewN ?_ _ | refine blk_drew ?_ | refine blk_alloc ?_ _)); refine blk_far ?_ NB318_319.out _; (with_reducible repeat (first | refine blk_drewN ?_ _ | refine blk_drew ?_ | refine blk_alloc ?_ _)); exact BK318.out))⟩; have n2_ : Aside0 (w11.heap[gb319]? = some (.cells #[.int .i64 a1, .int .i64 a0_1, .slice none 0 0] 29 (0, 0))) := ⟨(by rw [hw]; exact (by (with_reducible repeat (first | refine blk_drewN ?_ _ | refine blk_drew ?_ | refine blk_alloc ?_ _)); refine blk_put (cs := #[.int .i64 a1, .int .i64 a0_1, .slice none 0 0]) ?_ 2 _ rfl; (with_reducible repeat (first | refine blk_drewN ?_ _ | refine blk_drew ?_ | refine blk_alloc ?_ _)); refine blk_put (cs := #[.int .i64 a1, .int .i64 0, .slice none 0 0]) ?_ 1 _ rfl; (with_reducible repeat (first | refine blk_drewN ?_ _ | refine blk_drew ?_ | refine blk_alloc ?_ _)); refine blk_put (cs := #[.int .i64 0, .int .i64 0, .slice none 0 0]) ?_ 0 _ rfl; (with_reducible repeat (first | refine blk_drewN ?_ _ | refine blk_drew ?_ | refine blk_alloc ?_ _)); exact BK319.out))⟩; have n3_ : Aside0 (Below w.heap.size w w11) := ⟨(by rw [hw]; exact Xi)⟩; clear hw; clear BK0; clear BK318; clear BK319; clear HB; have BK0 := n0_; have BK318 := n1_; have BK319 := n2_; have HB := n3_; clear n0_ n1_ n2_ n3_) | ((with_reducible refine gate_callee (f := 63) rfl ?_); refine Xgo 17 Try.func63 #[.pointer (some ⟨g0_, 0, none⟩), .slice none 0 0, .int .i64 a1] ?_; (refine (impl_Doc_order.calls k g0_ a0_0 a0_1 A0_2 c0_2 l0_2 (fun k_ => some k_ = (.slice none 0 0 : Value).ownBlock) (.slice none 0 0) ([] : List Int) a1 t320 w _ ?side1 ?side2 ?side3 ?side4 ?side5 A3.out).mono ?_); (case side1 => exact Xi); (case side2 => exact (Xq' BK0)); (case side3 => exact Kd.C_kept_came k88_heap HR0_2.out Xi (fun k_ hs_ => (fun e_ => by simp [Value.ownBlock] at e_) hs_)); (case side4 => exact HC0_2.out); (case side5 => exact Kd.R_nil _ _ _ _ _); rintro e w12 ⟨v321, rfl, ho0, hb, hkp⟩; refine ⟨_, rfl, ?_⟩; replace BK0 := Aside0.mk (blk_kept (Xq' BK0) hkp (fun hs_ => (fun e_ => by simp [Value.ownBlock] at e_) hs_)); replace BK318 := Aside0.mk (blk_kept (Xq' BK318) hkp (fun hs_ => (fun e_ => by simp [Value.ownBlock] at e_) hs_)); replace BK319 := Aside0.mk (blk_kept (Xq' BK319) hkp (fun hs_ => (fun e_ => by simp [Value.ownBlock] at e_) hs_)); have HO322 := Aside0.mk (Kd.R_mono (ok' := fun k_ => True) ho0 (fun k_ hk_ => trivial)); replace HB := Aside0.mk (hb); (try clear hb); (try clear hkp); (try clear ho0); obtain ⟨hcz13_0, hcz13_1, hcz13_2⟩ := Xc3 BK0; obtain ⟨hfz13_0, hfz13_1, hfz13_2⟩ := Xf3 BK0))
 go_loopg [23] k (fun kq v23 w' => ∃ (x23_1 : Int) (x320002_1 : List (S88)) (u320002 : Value), v23 = .int .i64 x23_1 ∧ Aside0 (impl_Doc_sub.l0 kq t320 l0_2 (l0_2.length : Int) x23_1 a1 a0_1 x320002_1 = some (r1, r2, r3)) ∧ Aside0 (kq ≤ k) ∧ Aside0 (Kd.R (Kd.int .i64) 3 w' w.heap.size (fun _ => True) v321 t320) ∧ Aside0 (Kd.S k88 88 w' w.heap.size (fun k_ => some k_ ≠ (v321 : Value).ownBlock) u320002 x320002_1) ∧ Aside0 (w'.heap[g0_]? = some (.cells #[.int .i64 a0_0, .int .i64 a0_1, (.slice A0_2 l0_2.length c0_2)] 29 (0, 0))) ∧ Aside0 (w'.heap[gb318]? = some (.cells #[.int .i64 0, .int .i64 0, (.slice none 0 0)] 29 (0, 0))) ∧ Aside0 (w'.heap[gb319]? = some (.cells #[.int .i64 a1, .int .i64 a0_1, u320002] 29 (0, 0))) ∧ Aside0 (Below w.heap.size w w'))
 case atStart => exact ⟨(0), (([] : List (S88))), (.slice none 0 0), Xr, H', Xkr, (Xp' HO322), ⟨by first | exact Kd.S_nil _ _ _ _ _ | exact Kd.N_nil _ _ _ _ _ | exact Kd.V_nil _ _ _ _ _ | exact Kd.Q_nil _ _ _ _ _ | exact Kd.R_nil _ _ _ _ _⟩, (Xp BK0), (Xp BK318), (Xp BK319), ⟨Xi⟩⟩
 case round =>
  clear H'
  (try clear hcz10_0); (try clear hcz10_1); (try clear hcz10_2); (try clear hcz13_0); (try clear hcz13_1); (try clear hcz13_2); (try clear hcz6_0); (try clear hcz6_1); (try clear hcz6_2); (try clear hfz10_0); (try clear hfz10_1); (try clear hfz10_2); (try clear hfz13_0); (try clear hfz13_1); (try clear hfz13_2); (try clear hfz6_0); (try clear hfz6_1); (try clear hfz6_2)
  obtain ⟨x23_1, x320002_1, u320002, rfl, HA, HK1, HO_6, HO_320002, BK0, BK318, BK319, HB⟩ := hrel
  cases gk with
  | zero => cases HA.out
  | succ k1 =>
   have H := HA.out
   clear HA
   simp only [impl_Doc_sub.l0] at H
   obtain ⟨c14b0, H⟩ | ⟨c14b0, H⟩ := Xit H
   ·obtain ⟨c15b0, H⟩ := Xid H
    obtain ⟨c16b0, H⟩ := Xid H
    obtain ⟨t325, A17, H⟩ := Xbi H
    (try dsimp only at H)
    have HC18 := Aside0.mk H
    clear H
    obtain ⟨ad323, A323_4, c323_4, e323, p323, q323, hx323_0, hx323_1, hx323_2, hx323_3, hx323_4, HC323_4, HR323_4⟩ := at_B88 HR0_2 x23_1 Xa Xa HB
    cases e323
    go_upto_if 30 with (first | ((with_reducible refine gate_dst (N := 8) rfl ?_); refine Xbox 8 #[.int .i64 0, .int .i64 0, .int .i64 0, .string (⟨#[]⟩ : ByteArray), .slice none 0 0] 88 ?_; intro gb324 hg w19 hbox hb; replace HO_6 := Aside0.mk (Kd.R_below (Xq HO_6) hb); replace HO_320002 := Aside0.mk (Kd.S_below (Kd.S_elderB (Xq HO_320002) gb324 (Nat.le_of_eq hg.symm)) hb); have BK324 := Aside0.mk (hbox); have GE324 := Xge hg Xi; replace HB := Aside0.mk (below_step Xi hb); have NB0_324 := Xnb hg BK0; have NB324_0 := Xns NB0_324; replace BK0 := Xbb BK0 hb; have NB318_324 := Xnb hg BK318; have NB324_318 := Xns NB318_324; replace BK318 := Xbb BK318 hb; have NB319_324 := Xnb hg BK319; have NB324_319 := Xns NB319_324; replace BK319 := Xbb BK319 hb; clear hb hbox hg; have hnb20 := NB324_0.out; have hnc20 := NB0_324.out; have hnb21 := NB324_318.out; have hnc21 := NB318_324.out; have hnb22 := NB324_319.out; have hnc22 := NB319_324.out; obtain ⟨hcz23_0, hcz23_1, hcz23_2, hcz23_3, hcz23_4⟩ := Xc5 BK324; obtain ⟨hfz23_0, hfz23_1, hfz23_2, hfz23_3, hfz23_4⟩ := Xf5 BK324) | ((with_reducible refine gate_store (t := 88) (p := 8) rfl ?_); refine store_event (t := 88) (p := 8) (v := ?vo_w24) (w1 := (((((w19.setCell ⟨gb324, 0, none⟩ (.int .i64 ((rd_T88 l0_2 x23_1).f0))).setCell ⟨gb324, 1, none⟩ (.int .i64 ((rd_T88 l0_2 x23_1).f1))).setCell ⟨gb324, 2, none⟩ (.int .i64 ((rd_T88 l0_2 x23_1).f2))).setCell ⟨gb324, 3, none⟩ (.string ((rd_T88 l0_2 x23_1).f3))).setCell ⟨gb324, 4, none⟩ (.slice A323_4 ((rd_T88 l0_2 x23_1).f4).length c323_4))) ?hg ?ho ?hn ?hr ?_; (case ho => rfl); (case hg => rfl); (case hn => rfl); (case hr => first | (go_simp; done) | (go_simp; rfl)); intro w24 hw; have n0_ : Aside0 (Kd.R (Kd.int .i64) 3 w24 w.heap.size (fun _ => True) v321 t320) := ⟨(by rw [hw]; exact (by (with_reducible repeat (first | apply Kd.R_alloc | apply Kd.R_drewN | apply Kd.R_drew)); exact Kd.R_mono (Kd.R_far (p := ⟨gb324, 4, none⟩) (Kd.R_far (p := ⟨gb324, 3, none⟩) (Kd.R_far (p := ⟨gb324, 2, none⟩) (Kd.R_far (p := ⟨gb324, 1, none⟩) (Kd.R_far (p := ⟨gb324, 0, none⟩) (Kd.R_types HO_6.out BK324.out (by decide)) (fun _ hk => hk.2) (.int .i64 ((rd_T88 l0_2 x23_1).f0))) (fun _ hk => hk.2) (.int .i64 ((rd_T88 l0_2 x23_1).f1))) (fun _ hk => hk.2) (.int .i64 ((rd_T88 l0_2 x23_1).f2))) (fun _ hk => hk.2) (.string ((rd_T88 l0_2 x23_1).f3))) (fun _ hk => hk.2) (.slice A323_4 ((rd_T88 l0_2 x23_1).f4).length c323_4)) (fun _ hk => trivial)))⟩; have n1_ : Aside0 (Kd.S k88 88 w24 w.heap.size (fun k_ => some k_ ≠ (v321 : Value).ownBlock ∧ k_ ≠ gb324) u320002 x320002_1) := ⟨(by rw [hw]; exact (by (with_reducible repeat (first | apply Kd.S_alloc | apply Kd.S_drewN | apply Kd.S_drew)); exact Kd.S_mono (Kd.S_far (p := ⟨gb324, 4, none⟩) (Kd.S_far (p := ⟨gb324, 3, none⟩) (Kd.S_far (p := ⟨gb324, 2, none⟩) (Kd.S_far (p := ⟨gb324, 1, none⟩) (Kd.S_far (p := ⟨gb324, 0, none⟩) (Kd.S_mono HO_320002.out (fun k_ hk => (⟨hk, hk.2⟩ : _ ∧ k_ ≠ gb324))) (fun _ hk => hk.2) (.int .i64 ((rd_T88 l0_2 x23_1).f0))) (fun _ hk => hk.2) (.int .i64 ((rd_T88 l0_2 x23_1).f1))) (fun _ hk => hk.2) (.int .i64 ((rd_T88 l0_2 x23_1).f2))) (fun _ hk => hk.2) (.string ((rd_T88 l0_2 x23_1).f3))) (fun _ hk => hk.2) (.slice A323_4 ((rd_T88 l0_2 x23_1).f4).length c323_4)) (fun _ hk => ⟨hk.1.1, hk.1.2⟩)))⟩; have n2_ : Aside0 (w24.heap[g0_]? = some (.cells #[.int .i64 a0_0, .int .i64 a0_1, .slice (some ad323) l0_2.length c0_2] 29 (0, 0))) := ⟨(by rw [hw]; exact (by (with_reducible repeat (first | refine blk_drewN ?_ _ | refine blk_drew ?_ | refine blk_alloc ?_ _)); refine blk_far ?_ NB0_324.out _; (with_reducible repeat (first | refine blk_drewN ?_ _ | refine blk_drew ?_ | refine blk_alloc ?_ _)); refine blk_far ?_ NB0_324.out _; (with_reducible repeat (first | refine blk_drewN ?_ _ | refine blk_drew ?_ | refine blk_alloc ?_ _)); refine blk_far ?_ NB0_324.out _; (with_reducible repeat (first | refine blk_drewN ?_ _ | refine blk_drew ?_ | refine blk_alloc ?_ _)); refine blk_far ?_ NB0_324.out _; (with_reducible repeat (first | refine blk_drewN ?_ _ | refine blk_drew ?_ | refine blk_alloc ?_ _)); refine blk_far ?_ NB0_324.out _; (with_reducible repeat (first | refine blk_drewN ?_ _ | refine blk_drew ?_ | refine blk_alloc ?_ _)); exact BK0.out))⟩; have n3_ : Aside0 (w24.heap[gb318]? = some (.cells #[.int .i64 0, .int .i64 0, .slice none 0 0] 29 (0, 0))) := ⟨(by rw [hw]; exact (by (with_reducible repeat (first | refine blk_drewN ?_ _ | refine blk_drew ?_ | refine blk_alloc ?_ _)); refine blk_far ?_ NB318_324.out _; (with_reducible repeat (first | refine blk_drewN ?_ _ | refine blk_drew ?_ | refine blk_alloc ?_ _)); refine blk_far ?_ NB318_324.out _; (with_reducible repeat (first | refine blk_drewN ?_ _ | refine blk_drew ?_ | refine blk_alloc ?_ _)); refine blk_far ?_ NB318_324.out _; (with_reducible repeat (first | refine blk_drewN ?_ _ | refine blk_drew ?_ | refine blk_alloc ?_ _)); refine blk_far ?_ NB318_324.out _; (with_reducible repeat (first | refine blk_drewN ?_ _ | refine blk_drew ?_ | refine blk_alloc ?_ _)); refine blk_far ?_ NB318_324.out _; (with_reducible repeat (first | refine blk_drewN ?_ _ | refine blk_drew ?_ | refine blk_alloc ?_ _)); exact BK318.out))⟩; have n4_ : Aside0 (w24.heap[gb319]? = some (.cells #[.int .i64 a1, .int .i64 a0_1, u320002] 29 (0, 0))) := ⟨(by rw [hw]; exact (by (with_reducible repeat (first | refine blk_drewN ?_ _ | refine blk_drew ?_ | refine blk_alloc ?_ _)); refine blk_far ?_ NB319_324.out _; (with_reducible repeat (first | refine blk_drewN ?_ _ | refine blk_drew ?_ | refine blk_alloc ?_ _)); refine blk_far ?_ NB319_324.out _; (with_reducible repeat (first | refine blk_drewN ?_ _ | refine blk_drew ?_ | refine blk_alloc ?_ _)); refine blk_far ?_ NB319_324.out _; (with_reducible repeat (first | refine blk_drewN ?_ _ | refine blk_drew ?_ | refine blk_alloc ?_ _)); refine blk_far ?_ NB319_324.out _; (with_reducible repeat (first | refine blk_drewN ?_ _ | refine blk_drew ?_ | refine blk_alloc ?_ _)); refine blk_far ?_ NB319_324.out _; (with_reducible repeat (first | refine blk_drewN ?_ _ | refine blk_drew ?_ | refine blk_alloc ?_ _)); exact BK319.out))⟩; have n5_ : Aside0 (w24.heap[gb324]? = some (.cells #[.int .i64 ((rd_T88 l0_2 x23_1).f0), .int .i64 ((rd_T88 l0_2 x23_1).f1), .int .i64 ((rd_T88 l0_2 x23_1).f2), .string ((rd_T88 l0_2 x23_1).f3), .slice A323_4 ((rd_T88 l0_2 x23_1).f4).length c323_4] 88 (0, 0))) := ⟨(by rw [hw]; exact (by (with_reducible repeat (first | refine blk_drewN ?_ _ | refine blk_drew ?_ | refine blk_alloc ?_ _)); refine blk_put (cs := #[.int .i64 ((rd_T88 l0_2 x23_1).f0), .int .i64 ((rd_T88 l0_2 x23_1).f1), .int .i64 ((rd_T88 l0_2 x23_1).f2), .string ((rd_T88 l0_2 x23_1).f3), .slice none 0 0]) ?_ 4 _ rfl; (with_reducible repeat (first | refine blk_drewN ?_ _ | refine blk_drew ?_ | refine blk_alloc ?_ _)); refine blk_put (cs := #[.int .i64 ((rd_T88 l0_2 x23_1).f0), .int .i64 ((rd_T88 l0_2 x23_1).f1), .int .i64 ((rd_T88 l0_2 x23_1).f2), .string (⟨#[]⟩ : ByteArray), .slice none 0 0]) ?_ 3 _ rfl; (with_reducible repeat (first | refine blk_drewN ?_ _ | refine blk_drew ?_ | refine blk_alloc ?_ _)); refine blk_put (cs := #[.int .i64 ((rd_T88 l0_2 x23_1).f0), .int .i64 ((rd_T88 l0_2 x23_1).f1), .int .i64 0, .string (⟨#[]⟩ : ByteArray), .slice none 0 0]) ?_ 2 _ rfl; (with_reducible repeat (first | refine blk_drewN ?_ _ | refine blk_drew ?_ | refine blk_alloc ?_ _)); refine blk_put (cs := #[.int .i64 ((rd_T88 l0_2 x23_1).f0), .int .i64 0, .int .i64 0, .string (⟨#[]⟩ : ByteArray), .slice none 0 0]) ?_ 1 _ rfl; (with_reducible repeat (first | refine blk_drewN ?_ _ | refine blk_drew ?_ | refine blk_alloc ?_ _)); refine blk_put (cs := #[.int .i64 0, .int .i64 0, .int .i64 0, .string (⟨#[]⟩ : ByteArray), .slice none 0 0]) ?_ 0 _ rfl; (with_reducible repeat (first | refine blk_drewN ?_ _ | refine blk_drew ?_ | refine blk_alloc ?_ _)); exact BK324.out))⟩; have n6_ : Aside0 (Below w.heap.size w w24) := ⟨(by rw [hw]; exact Xi)⟩; clear hw; clear HO_6; clear HO_320002; clear BK0; clear BK318; clear BK319; clear BK324; clear HB; have HO_6 := n0_; have HO_320002 := n1_; have BK0 := n2_; have BK318 := n3_; have BK319 := n4_; have BK324 := n5_; have HB := n6_; clear n0_ n1_ n2_ n3_ n4_ n5_ n6_; obtain ⟨hcz25_0, hcz25_1, hcz25_2, hcz25_3, hcz25_4⟩ := Xc5 BK324; obtain ⟨hfz25_0, hfz25_1, hfz25_2, hfz25_3, hfz25_4⟩ := Xf5 BK324; obtain ⟨Ao26, co26, eo26⟩ := Kd.R_slice HO_6.out; subst eo26) | ((with_reducible refine gate_callee (f := 131) rfl ?_); refine Xgo 30 Try.func131 #[.slice Ao26 t320.length co26, .int .i64 ((rd_T88 l0_2 x23_1).f0)] ?_; (with_reducible refine (slices_Contains_int_int.calls k1 _ _ t320 ((rd_T88 l0_2 x23_1).f0) t325 _ ?side1 ?side2 A17.out).mono ?_); (case side1 => repeat (first | exact (Kd.R_reads' HO_6.out).2.2 | (with_reducible first | refine Kd.C_alloc ?_ _ | refine Kd.C_drewN ?_ _ | refine Kd.C_drew ?_))); (case side2 => exact (Kd.R_reads' HO_6.out).2.1); rintro e w' ⟨rfl, ⟨nd, rfl⟩⟩; refine ⟨_, rfl, ?_⟩))
    (try (rw [drewN_self w24]; generalize hq_ : World.drewN w24 _ = w24; have n0_ : Aside0 (Kd.S k88 88 w24 w.heap.size (fun k_ => some k_ ≠ (.slice Ao26 t320.length co26 : Value).ownBlock ∧ k_ ≠ gb324) u320002 x320002_1) := ⟨by rw [← hq_]; exact (Xq HO_320002)⟩; have n1_ : Aside0 (Kd.R (Kd.int .i64) 3 w24 w.heap.size (fun _ => True) (.slice Ao26 t320.length co26) t320) := ⟨by rw [← hq_]; exact (Xq HO_6)⟩; have n2_ : Aside0 (w24.heap[g0_]? = some (.cells #[.int .i64 a0_0, .int .i64 a0_1, .slice (some ad323) l0_2.length c0_2] 29 (0, 0))) := ⟨by rw [← hq_]; exact (Xq' BK0)⟩; have n3_ : Aside0 (w24.heap[gb318]? = some (.cells #[.int .i64 0, .int .i64 0, .slice none 0 0] 29 (0, 0))) := ⟨by rw [← hq_]; exact (Xq' BK318)⟩; have n4_ : Aside0 (w24.heap[gb319]? = some (.cells #[.int .i64 a1, .int .i64 a0_1, u320002] 29 (0, 0))) := ⟨by rw [← hq_]; exact (Xq' BK319)⟩; have n5_ : Aside0 (w24.heap[gb324]? = some (.cells #[.int .i64 ((rd_T88 l0_2 x23_1).f0), .int .i64 ((rd_T88 l0_2 x23_1).f1), .int .i64 ((rd_T88 l0_2 x23_1).f2), .string ((rd_T88 l0_2 x23_1).f3), .slice A323_4 ((rd_T88 l0_2 x23_1).f4).length c323_4] 88 (0, 0))) := ⟨by rw [← hq_]; exact (Xq' BK324)⟩; have n6_ : Aside0 (Below w.heap.size w w24) := ⟨by rw [← hq_]; exact Xi⟩; clear HO_320002 HO_6 BK0 BK318 BK319 BK324 HB hq_; have HO_320002 := n0_; have HO_6 := n1_; have BK0 := n2_; have BK318 := n3_; have BK319 := n4_; have BK324 := n5_; have HB := n6_; clear n0_ n1_ n2_ n3_ n4_ n5_ n6_))
    have H := HC18.out
    clear HC18
    by_cases c27 : t325 = true
    ·subst c27
     (first | rw [if_pos rfl] at H | skip)
     replace H := Option.bind_eq_some_iff.mp H
     obtain ⟨⟨t326, t327, t328, t329, t330⟩, A280, H⟩ := H
     (try dsimp only at H)
     have A28 := Aside0.mk A280
     clear A280
     obtain ⟨c29, H⟩ := Xif H
     have LMc29 := Aside0.mk c29
     clear c29
     obtain ⟨y333, hy333⟩ : ∃ y_ : List (S88), y_ = (x320002_1 ++ [(⟨t326, t327, t328, t329, t330⟩ : S88)]) := ⟨_, rfl⟩
     replace H : (impl_Doc_sub.l0 k1 t320 l0_2 (l0_2.length : Int) (wrap64 (x23_1 + 1)) a1 a0_1 y333) = some (r1, r2, r3) := by first | (rw [hy333]; with_reducible exact H) | (have H2_ := (Option.bind_some _ _).symm.trans H; rw [hy333]; with_reducible exact H2_) | (have H2_ := (Option.bind_some _ _).symm.trans H; with_reducible exact H2_) | with_reducible exact H | (rw [hy333]; exact H) | exact H
     have Ny333 := Aside0.mk hy333
     clear hy333
     have H' := Aside0.mk H
     clear H
     try go_wp2_with (fail)
     replace HO_6 := Aside0.mk (Kd.R_drew HO_6.out)
     replace HO_320002 := Aside0.mk (Kd.S_drew HO_320002.out)
     replace BK0 := Aside0.mk (blk_drew BK0.out)
     replace BK318 := Aside0.mk (blk_drew BK318.out)
     replace BK319 := Aside0.mk (blk_drew BK319.out)
     replace BK324 := Aside0.mk (blk_drew BK324.out)
     replace HB := Aside0.mk (below_drew1 HB.out)
     refine start_ (n := 8) (S := fun w' => w'.cell? ⟨gb319, 0, none⟩ = some (.int .i64 a1) ∧ w'.cell? ⟨gb319, 1, none⟩ = some (.int .i64 a0_1) ∧ w'.cell? ⟨gb319, 2, none⟩ = some (u320002) ∧ w'.cell? ⟨gb324, 0, none⟩ = some (.int .i64 ((rd_T88 l0_2 x23_1).f0)) ∧ w'.cell? ⟨gb324, 1, none⟩ = some (.int .i64 ((rd_T88 l0_2 x23_1).f1)) ∧ w'.cell? ⟨gb324, 2, none⟩ = some (.int .i64 ((rd_T88 l0_2 x23_1).f2)) ∧ w'.cell? ⟨gb324, 3, none⟩ = some (.string ((rd_T88 l0_2 x23_1).f3)) ∧ w'.cell? ⟨gb324, 4, none⟩ = some (.slice A323_4 ((rd_T88 l0_2 x23_1).f4).length c323_4)) (ds := [7]) #[false, false, false, false, false, false, false, false] (by kernel_rfl) rfl rfl ⟨(blk_cell BK319.out 0).trans rfl, (blk_cell BK319.out 1).trans rfl, (blk_cell BK319.out 2).trans rfl, (blk_cell BK324.out 0).trans rfl, (blk_cell BK324.out 1).trans rfl, (blk_cell BK324.out 2).trans rfl, (blk_cell BK324.out 3).trans rfl, (blk_cell BK324.out 4).trans rfl⟩ (fun hHeld => ?_); refine with_tabW impl_Doc_sub.tab7 impl_Doc_sub.bits7 (fun HT_ HW_ => ?_)
     generalize w24.drew = w30 at HO_6 HO_320002 BK0 BK318 BK319 BK324 HB hHeld ⊢
     refine Xpu 0 31 (XW.bs 8 1) HT_.out ?_
     refine Xta 1 32 (XW.bs 8 3) HT_.out HW_.out hHeld ?_
     refine Xta 2 33 (XW.bs 8 7) HT_.out HW_.out hHeld ?_
     refine one_ (i := 3) (N := some 34) (XW.bs 8 15) rfl rfl (one_of HT_.out (by kernel_rfl)) (by decide) (fun K hK => ?_)
     refine goes_ Try.func132 (by kernel_rfl) rfl #[.agg #[.int .i64 ((rd_T88 l0_2 x23_1).f0), .int .i64 ((rd_T88 l0_2 x23_1).f1), .int .i64 ((rd_T88 l0_2 x23_1).f2), .string ((rd_T88 l0_2 x23_1).f3), .slice A323_4 ((rd_T88 l0_2 x23_1).f4).length c323_4]] (by rfl) rfl rfl (by (try simp only [List.map_toArray, List.map_cons, List.map_nil]); first | done | rfl | (simp only [List.length_drop, List.length_take]; rfl)) ?_
     with_reducible refine (impl_Node_copied.calls ((rd_T88 l0_2 x23_1).f0) ((rd_T88 l0_2 x23_1).f1) ((rd_T88 l0_2 x23_1).f2) ((rd_T88 l0_2 x23_1).f3) _ _ ((rd_T88 l0_2 x23_1).f4) t326 t327 t328 t329 t330 _ ?side1 ?side2 A28.out).mono ?_
     (case side1 => exact Xc HR323_4)
     (case side2 => exact HC323_4.out)
     rintro e w31 ⟨v331, rfl, ho0, hb⟩
     refine ⟨_, rfl, ?_⟩
     replace HO_320002 := Aside0.mk (Kd.S_elder' (Xq HO_320002) (Kd.R_base ho0) hb)
     have HO332 := Aside0.mk (Kd.R_lower (Kd.R_new' ho0 (Kd.R_lt (Xq HO_6))) (below_size Xi))
     replace HO_6 := Aside0.mk (Kd.R_elder' (Xq HO_6) (Kd.R_base ho0) hb)
     replace BK0 := Xbb BK0 hb
     replace BK318 := Xbb BK318 hb
     replace BK319 := Xbb BK319 hb
     replace BK324 := Xbb BK324 hb
     replace HB := Aside0.mk (below_step Xi hb)
     (try clear hb)
     (try clear hb2)
     (try clear hk)
     (try clear hi)
     (try clear ho0)
     obtain ⟨Ao33, co33, eo33⟩ := Kd.R_slice HO332.out
     (first | subst eo33 | (injection eo33 with f1_ f2_ f3_; have f4_ := f1_.symm; have f5_ := f3_.symm; clear f1_ f2_ f3_; subst f4_; subst f5_))
     refine hK.out _ _ ⟨(blk_cell BK319.out 0).trans rfl, (blk_cell BK319.out 1).trans rfl, (blk_cell BK319.out 2).trans rfl, (blk_cell BK324.out 0).trans rfl, (blk_cell BK324.out 1).trans rfl, (blk_cell BK324.out 2).trans rfl, (blk_cell BK324.out 3).trans rfl, (blk_cell BK324.out 4).trans rfl⟩ (fun hHeld => ?_)
     clear hK K
     refine Xno ?_
     refine one_ (i := 4) (N := some 35) (XW.bs 8 31) rfl rfl (one_of HT_.out (by kernel_rfl)) (by decide) (fun K hK => ?_)
     refine value_ (w1 := ?_) (v := ?_) (by rfl) rfl ?_ ?_
     rotate_left 2
     ·go_simp
      constructor
      ·rfl
      ·rfl
     refine hK.out _ _ ⟨(blk_cell (blk_alloc BK319.out _) 0).trans rfl, (blk_cell (blk_alloc BK319.out _) 1).trans rfl, (blk_cell (blk_alloc BK319.out _) 2).trans rfl, (blk_cell (blk_alloc BK324.out _) 0).trans rfl, (blk_cell (blk_alloc BK324.out _) 1).trans rfl, (blk_cell (blk_alloc BK324.out _) 2).trans rfl, (blk_cell (blk_alloc BK324.out _) 3).trans rfl, (blk_cell (blk_alloc BK324.out _) 4).trans rfl⟩ (fun hHeld => ?_)
     clear hK K
     refine Xno ?_
     refine one_ (i := 5) (N := some 36) (XW.bs 8 63) rfl rfl (one_of HT_.out (by kernel_rfl)) (by decide) (fun K hK => ?_)
     refine Kd.S_append_step k88 (w0 := w) w.heap.size (by rfl) (.tmp 32) (.tmp 35) 27 88 (.agg #[(.int .i64 0), (.int .i64 0), (.int .i64 0), (.string ⟨#[]⟩), (.slice none 0 0)]) 64 rfl Try.underlying27 info88 rfl (by decide) (by omega) u320002 x320002_1 (⟨t326, t327, t328, t329, t330⟩ : S88) [.int .i64 t326, .int .i64 t327, .int .i64 t328, .string t329, .slice Ao33 t330.length co33] (fun k_ => some k_ ≠ (.slice Ao26 t320.length co26 : Value).ownBlock ∧ k_ ≠ gb324) (fun k_ => some k_ = (.slice Ao33 t330.length co33 : Value).ownBlock) rfl rfl ?aP (fun k_ hk_ => ((Kd.R_mono (ok' := fun k_ => ((fun k_ => some k_ ≠ (.slice Ao26 t320.length co26 : Value).ownBlock ∧ k_ ≠ gb324)) k_ ∧ some k_ ≠ (u320002 : Value).ownBlock) (Kd.R_types (Kd.R_apart' (HO332.out) (Kd.S_typed HO_320002.out) (by decide)) BK324.out (by decide)) (fun k_ hk => ⟨⟨hk.1.1.2, hk.2⟩, hk.1.2⟩))).1 k_ hk_.symm) ?aF ?aO ?aB ?aS ?aL ?_
     (case aP => exact k88_mkM _ _ _ (⟨t326, t327, t328, t329, t330⟩ : S88) (Kd.R_mono (Kd.R_tight rfl (Kd.R_mono (ok' := fun k_ => ((fun k_ => some k_ ≠ (.slice Ao26 t320.length co26 : Value).ownBlock ∧ k_ ≠ gb324)) k_ ∧ some k_ ≠ (u320002 : Value).ownBlock) (Kd.R_types (Kd.R_apart' (HO332.out) (Kd.S_typed HO_320002.out) (by decide)) BK324.out (by decide)) (fun k_ hk => ⟨⟨hk.1.1.2, hk.2⟩, hk.1.2⟩))) (fun _ h_ => h_)))
     (case aB => exact Xi)
     (case aF => exact (fun k_ hk => ⟨Kd.fresh' (Kd.R_lt (Xq HO_6)) k_ hk, Kd.freshB (g := gb324) (o := .cells #[.int .i64 ((rd_T88 l0_2 x23_1).f0), .int .i64 ((rd_T88 l0_2 x23_1).f1), .int .i64 ((rd_T88 l0_2 x23_1).f2), .string ((rd_T88 l0_2 x23_1).f3), .slice A323_4 ((rd_T88 l0_2 x23_1).f4).length c323_4] 88 (0, 0)) (Xq' BK324) k_ hk⟩))
     (case aO => exact (by (with_reducible repeat (first | apply Kd.S_alloc | apply Kd.S_drewN | apply Kd.S_drew)); exact Kd.S_mono HO_320002.out (fun k_ hk => ⟨⟨hk.1.1, hk.1.2⟩, fun e_ => hk.2 e_⟩)))
     (case aS => exact (below_size Xi))
     (case aL => have := LMc29.out; omega)
     intro v334 w32 ho hb hg hat
     rw [← Ny333.out] at ho
     replace HO_6 := Aside0.mk (Kd.R_over' (Xq HO_6) (Kd.S_typed (Xq HO_320002)) (by decide) hg)
     replace BK0 := Aside0.mk (blk_grown (g := g0_) (o := .cells #[.int .i64 a0_0, .int .i64 a0_1, .slice (some ad323) l0_2.length c0_2] 29 (0, 0)) (Xq' BK0) hg (Kd.S_ne HO_320002.out BK0.out (by decide)))
     replace BK318 := Aside0.mk (blk_grown (g := gb318) (o := .cells #[.int .i64 0, .int .i64 0, .slice none 0 0] 29 (0, 0)) (Xq' BK318) hg (Kd.S_ne HO_320002.out BK318.out (by decide)))
     replace BK319 := Aside0.mk (blk_grown (g := gb319) (o := .cells #[.int .i64 a1, .int .i64 a0_1, u320002] 29 (0, 0)) (Xq' BK319) hg (Kd.S_ne HO_320002.out BK319.out (by decide)))
     replace BK324 := Aside0.mk (blk_grown (g := gb324) (o := .cells #[.int .i64 ((rd_T88 l0_2 x23_1).f0), .int .i64 ((rd_T88 l0_2 x23_1).f1), .int .i64 ((rd_T88 l0_2 x23_1).f2), .string ((rd_T88 l0_2 x23_1).f3), .slice A323_4 ((rd_T88 l0_2 x23_1).f4).length c323_4] 88 (0, 0)) (Xq' BK324) hg (Kd.S_away HO_320002.out (fun _ hk => hk.1.2)))
     replace HB := Aside0.mk (hb)
     have HO335 := Aside0.mk (ho)
     clear HO_320002
     clear HO332
     clear ho hb hg hat
     obtain ⟨Ao34, co34, eo34⟩ := Kd.S_slice HO335.out
     (first | subst eo34 | (injection eo34 with f1_ f2_ f3_; have f4_ := f1_.symm; have f5_ := f3_.symm; clear f1_ f2_ f3_; subst f4_; subst f5_))
     refine hK.out _ _ ⟨(blk_cell BK319.out 0).trans rfl, (blk_cell BK319.out 1).trans rfl, (blk_cell BK319.out 2).trans rfl, (blk_cell BK324.out 0).trans rfl, (blk_cell BK324.out 1).trans rfl, (blk_cell BK324.out 2).trans rfl, (blk_cell BK324.out 3).trans rfl, (blk_cell BK324.out 4).trans rfl⟩ (fun hHeld => ?_)
     clear hK K
     refine Xno ?_
     refine Xpu 6 37 (XW.bs 8 127) HT_.out ?_
     refine last_ (i := 7) (N := none) #[true, true, true, true, true, true, true, true] rfl rfl (one_of HT_.out (by kernel_rfl)) (by decide) (fun K hK => ?_)
     have hs35 : w32.cell? ⟨gb319, 2, none⟩ = some (u320002) := (blk_cell BK319.out 2).trans rfl
     have hfs35 := blk_frozen BK319.out 2
     have hns35_0 := NB0_319.out
     have hns35_1 := NB318_319.out
     have hns35_3 := NB324_319.out
     have hms35_0 := NB319_0.out
     have hms35_1 := NB319_318.out
     have hms35_3 := NB319_324.out
     refine skip_ (w1 := ?_) (by rfl) rfl ?_ ?_
     rotate_left
     ·go_simp
      rfl
     refine hK.out _ _ ?_
     clear hK K
     refine done_ (done_of HT_.out (by kernel_rfl)) ?_
     try go_wp2_with (fail)
     go_roundg k1
     case measure => have := HK1.out; omega
     case rel => exact ⟨(wrap64 (x23_1 + 1)), (y333), (.slice Ao34 y333.length co34), Xr, H', Xk1, ⟨by (with_reducible repeat (first | apply Kd.R_alloc | apply Kd.R_drewN | apply Kd.R_drew)); exact Kd.R_mono (Kd.R_far (p := ⟨gb319, 2, none⟩) (Kd.R_types HO_6.out BK319.out (by decide)) (fun _ hk => hk.2) (.slice Ao34 y333.length co34)) (fun _ hk => trivial)⟩, ⟨by (with_reducible repeat (first | apply Kd.S_alloc | apply Kd.S_drewN | apply Kd.S_drew)); exact Kd.S_mono (Kd.S_far (p := ⟨gb319, 2, none⟩) (Kd.S_types HO335.out BK319.out (by decide)) (fun _ hk => hk.2) (.slice Ao34 y333.length co34)) (fun _ hk => hk.1.1)⟩, ⟨by (with_reducible repeat (first | refine blk_drewN ?_ _ | refine blk_drew ?_ | refine blk_alloc ?_ _)); refine blk_far ?_ NB0_319.out _; (with_reducible repeat (first | refine blk_drewN ?_ _ | refine blk_drew ?_ | refine blk_alloc ?_ _)); exact BK0.out⟩, ⟨by (with_reducible repeat (first | refine blk_drewN ?_ _ | refine blk_drew ?_ | refine blk_alloc ?_ _)); refine blk_far ?_ NB318_319.out _; (with_reducible repeat (first | refine blk_drewN ?_ _ | refine blk_drew ?_ | refine blk_alloc ?_ _)); exact BK318.out⟩, ⟨by (with_reducible repeat (first | refine blk_drewN ?_ _ | refine blk_drew ?_ | refine blk_alloc ?_ _)); refine blk_put (cs := #[.int .i64 a1, .int .i64 a0_1, u320002]) ?_ 2 _ rfl; (with_reducible repeat (first | refine blk_drewN ?_ _ | refine blk_drew ?_ | refine blk_alloc ?_ _)); exact BK319.out⟩, ⟨Xi⟩⟩
    ·replace c27 := Bool.eq_false_iff.mpr c27
     subst c27
     (first | rw [if_neg (show ¬ (false = true) by decide)] at H | skip)
     have H' := Aside0.mk H
     clear H
     go_wp2
     go_roundg k1
     case measure => have := HK1.out; omega
     case rel => exact ⟨(wrap64 (x23_1 + 1)), (x320002_1), (u320002), Xr, H', Xk1, (Xp' HO_6), ⟨by (with_reducible repeat (first | apply Kd.S_alloc | apply Kd.S_drewN | apply Kd.S_drew)); exact Kd.S_mono HO_320002.out (fun _ hk => hk.1)⟩, (Xp BK0), (Xp BK318), (Xp BK319), ⟨Xi⟩⟩
   ·simp only [Option.some.injEq, Prod.mk.injEq] at H
    obtain ⟨rfl, rfl, rfl⟩ := H
    have hnb36 := NB319_0.out
    have hnc36 := NB0_319.out
    have hnb37 := NB319_318.out
    have hnc37 := NB318_319.out
    obtain ⟨hcz38_0, hcz38_1, hcz38_2⟩ := Xc3 BK319
    obtain ⟨hfz38_0, hfz38_1, hfz38_2⟩ := Xf3 BK319
    have hnb39 := NB318_0.out
    have hnc39 := NB0_318.out
    obtain ⟨hcz40_0, hcz40_1, hcz40_2⟩ := Xc3 BK318
    obtain ⟨hfz40_0, hfz40_1, hfz40_2⟩ := Xf3 BK318
    obtain ⟨Ao41, co41, eo41⟩ := Kd.S_slice HO_320002.out
    subst eo41
    go_wp2_with (first | ((with_reducible refine gate_store (t := 29) (p := 4) rfl ?_); refine store_event (t := 29) (p := 4) (v := ?vo_w42) (w1 := (((wr.setCell ⟨gb318, 0, none⟩ (.int .i64 a1)).setCell ⟨gb318, 1, none⟩ (.int .i64 a0_1)).setCell ⟨gb318, 2, none⟩ (.slice Ao41 x320002_1.length co41))) ?hg ?ho ?hn ?hr ?_; (case ho => rfl); (case hg => rfl); (case hn => rfl); (case hr => first | (go_simp; done) | (go_simp; rfl)); intro w42 hw; have n0_ : Aside0 (Kd.R (Kd.int .i64) 3 w42 w.heap.size (fun _ => True) v321 t320) := ⟨(by rw [hw]; exact (by (with_reducible repeat (first | apply Kd.R_alloc | apply Kd.R_drewN | apply Kd.R_drew)); exact Kd.R_mono (Kd.R_far (p := ⟨gb318, 2, none⟩) (Kd.R_far (p := ⟨gb318, 1, none⟩) (Kd.R_far (p := ⟨gb318, 0, none⟩) (Kd.R_types HO_6.out BK318.out (by decide)) (fun _ hk => hk.2) (.int .i64 a1)) (fun _ hk => hk.2) (.int .i64 a0_1)) (fun _ hk => hk.2) (.slice Ao41 x320002_1.length co41)) (fun _ hk => trivial)))⟩; have n1_ : Aside0 (Kd.S k88 88 w42 w.heap.size (fun k_ => some k_ ≠ (v321 : Value).ownBlock) (.slice Ao41 x320002_1.length co41) x320002_1) := ⟨(by rw [hw]; exact (by (with_reducible repeat (first | apply Kd.S_alloc | apply Kd.S_drewN | apply Kd.S_drew)); exact Kd.S_mono (Kd.S_far (p := ⟨gb318, 2, none⟩) (Kd.S_far (p := ⟨gb318, 1, none⟩) (Kd.S_far (p := ⟨gb318, 0, none⟩) (Kd.S_types HO_320002.out BK318.out (by decide)) (fun _ hk => hk.2) (.int .i64 a1)) (fun _ hk => hk.2) (.int .i64 a0_1)) (fun _ hk => hk.2) (.slice Ao41 x320002_1.length co41)) (fun _ hk => hk.1)))⟩; have n2_ : Aside0 (w42.heap[g0_]? = some (.cells #[.int .i64 a0_0, .int .i64 a0_1, .slice A0_2 l0_2.length c0_2] 29 (0, 0))) := ⟨(by rw [hw]; exact (by (with_reducible repeat (first | refine blk_drewN ?_ _ | refine blk_drew ?_ | refine blk_alloc ?_ _)); refine blk_far ?_ NB0_318.out _; (with_reducible repeat (first | refine blk_drewN ?_ _ | refine blk_drew ?_ | refine blk_alloc ?_ _)); refine blk_far ?_ NB0_318.out _; (with_reducible repeat (first | refine blk_drewN ?_ _ | refine blk_drew ?_ | refine blk_alloc ?_ _)); refine blk_far ?_ NB0_318.out _; (with_reducible repeat (first | refine blk_drewN ?_ _ | refine blk_drew ?_ | refine blk_alloc ?_ _)); exact BK0.out))⟩; have n3_ : Aside0 (w42.heap[gb318]? = some (.cells #[.int .i64 a1, .int .i64 a0_1, .slice Ao41 x320002_1.length co41] 29 (0, 0))) := ⟨(by rw [hw]; exact (by (with_reducible repeat (first | refine blk_drewN ?_ _ | refine blk_drew ?_ | refine blk_alloc ?_ _)); refine blk_put (cs := #[.int .i64 a1, .int .i64 a0_1, .slice none 0 0]) ?_ 2 _ rfl; (with_reducible repeat (first | refine blk_drewN ?_ _ | refine blk_drew ?_ | refine blk_alloc ?_ _)); refine blk_put (cs := #[.int .i64 a1, .int .i64 0, .slice none 0 0]) ?_ 1 _ rfl; (with_reducible repeat (first | refine blk_drewN ?_ _ | refine blk_drew ?_ | refine blk_alloc ?_ _)); refine blk_put (cs := #[.int .i64 0, .int .i64 0, .slice none 0 0]) ?_ 0 _ rfl; (with_reducible repeat (first | refine blk_drewN ?_ _ | refine blk_drew ?_ | refine blk_alloc ?_ _)); exact BK318.out))⟩; have n4_ : Aside0 (w42.heap[gb319]? = some (.cells #[.int .i64 a1, .int .i64 a0_1, .slice Ao41 x320002_1.length co41] 29 (0, 0))) := ⟨(by rw [hw]; exact (by (with_reducible repeat (first | refine blk_drewN ?_ _ | refine blk_drew ?_ | refine blk_alloc ?_ _)); refine blk_far ?_ NB319_318.out _; (with_reducible repeat (first | refine blk_drewN ?_ _ | refine blk_drew ?_ | refine blk_alloc ?_ _)); refine blk_far ?_ NB319_318.out _; (with_reducible repeat (first | refine blk_drewN ?_ _ | refine blk_drew ?_ | refine blk_alloc ?_ _)); refine blk_far ?_ NB319_318.out _; (with_reducible repeat (first | refine blk_drewN ?_ _ | refine blk_drew ?_ | refine blk_alloc ?_ _)); exact BK319.out))⟩; have n5_ : Aside0 (Below w.heap.size w w42) := ⟨(by rw [hw]; exact Xi)⟩; clear hw; clear HO_6; clear HO_320002; clear BK0; clear BK318; clear BK319; clear HB; have HO_6 := n0_; have HO_320002 := n1_; have BK0 := n2_; have BK318 := n3_; have BK319 := n4_; have HB := n5_; clear n0_ n1_ n2_ n3_ n4_ n5_))
    refine bodyPost_ret (results_cell_row rfl _ _ gb318 29 #[.int .i64 a1, .int .i64 a0_1, .slice Ao41 x320002_1.length co41] (0, 0) _ rfl (Xq' BK318) Try.underlying29 rfl (by kernel_rfl)) rfl ?_
    exact ⟨_, Xe, by (with_reducible repeat (first | apply Kd.S_alloc | apply Kd.S_drewN | apply Kd.S_drew)); exact Kd.S_mono HO_320002.out (fun _ hk => trivial), Xi⟩

/-! ### impl_CopySub: function 27 -/
def impl_CopySub.f (k : Nat) (a0_0 : Int) (a0_1 : Int) (l0_2 : List (S88)) (a1 : Int) : Option (Int × Int × (List (S88)) × Int) := (impl_nodeCode.f k a0_0 a0_1 l0_2 a1).bind fun t338 => (if t338 = 0 then ((impl_Doc_sub.f k a0_0 a0_1 l0_2 a1).bind fun bt339 => (some (bt339.1, bt339.2.1, bt339.2.2, 0))) else (some (0, 0, ([] : List (S88)), t338)))
set_option maxHeartbeats 8000000 in
set_option maxRecDepth 100000 in
theorem impl_CopySub.calls (k : Nat) (a0_0 : Int) (a0_1 : Int) (A0_2 : Option Addr) (c0_2 : Nat) (l0_2 : List (S88)) (a1 : Int) (r1 : Int) (r2 : Int) (r3 : List (S88)) (r4 : Int) (w : World) (hr0_2 : Kd.C k88 w A0_2 l0_2.length l0_2) (hc0_2 : l0_2.length ≤ c0_2) (h : impl_CopySub.f k a0_0 a0_1 l0_2 a1 = some (r1, r2, r3, r4)) :
  Calls Try.prog 27 #[.agg #[.int .i64 a0_0, .int .i64 a0_1, .slice A0_2 l0_2.length c0_2], .int .i64 a1] w fun e w' => ∃ v2_ : Value, e = .returned (.tuple #[.agg #[.int .i64 r1, .int .i64 r2, v2_], .int .i64 r4]) ∧ Kd.S k88 88 w' w.heap.size (fun _ => True) v2_ r3 ∧ Below w.heap.size w w' := by
 have hu29 := Try.underlying29
 have HR0_2 := Aside0.mk hr0_2
 have HC0_2 := Aside0.mk hc0_2
 clear hr0_2 hc0_2
 have HB := Aside0.mk (Below.refl w.heap.size w)
 have H : ((impl_nodeCode.f k a0_0 a0_1 l0_2 a1).bind fun t338 => (if t338 = 0 then ((impl_Doc_sub.f k a0_0 a0_1 l0_2 a1).bind fun bt339 => (some (bt339.1, bt339.2.1, bt339.2.2, 0))) else (some (0, 0, ([] : List (S88)), t338)))) = some (r1, r2, r3, r4) := h
 clear h
 obtain ⟨t338, A3, H⟩ := Xbi H
 (try dsimp only at H)
 have HC4 := Aside0.mk H
 clear H
 go_enter Try.func27, Try.ntmps27
 go_upto_if 11 with (first | ((with_reducible refine gate_dst (N := 2) rfl ?_); refine Xbox 2 #[.int .i64 a0_0, .int .i64 a0_1, .slice A0_2 l0_2.length c0_2] 29 ?_; intro gb336 hg w5 hbox hb; have BK336 := Aside0.mk (hbox); have GE336 := Xge hg Xi; replace HB := Aside0.mk (below_step Xi hb); clear hb hbox hg) | ((with_reducible refine gate_dst (N := 4) rfl ?_); refine Xbox 4 #[.int .i64 0, .int .i64 0, .slice none 0 0] 29 ?_; intro gb337 hg w6 hbox hb; have BK337 := Aside0.mk (hbox); have GE337 := Xge hg Xi; replace HB := Aside0.mk (below_step Xi hb); have NB336_337 := Xnb hg BK336; have NB337_336 := Xns NB336_337; replace BK336 := Xbb BK336 hb; clear hb hbox hg; have hnb7 := NB336_337.out; have hnc7 := NB337_336.out; obtain ⟨hcz8_0, hcz8_1, hcz8_2⟩ := Xc3 BK336; obtain ⟨hfz8_0, hfz8_1, hfz8_2⟩ := Xf3 BK336) | ((with_reducible refine gate_callee (f := 70) rfl ?_); refine Xgo 9 Try.func70 #[.agg #[.int .i64 a0_0, .int .i64 a0_1, .slice A0_2 l0_2.length c0_2], .int .i64 a1] ?_; (with_reducible refine (impl_nodeCode.calls k a0_0 a0_1 _ _ l0_2 a1 t338 _ ?side1 ?side2 A3.out).mono ?_); (case side1 => exact Xc HR0_2); (case side2 => exact HC0_2.out); rintro e w9 ⟨rfl, hb⟩; refine ⟨_, rfl, ?_⟩; replace BK336 := Xbb BK336 hb; replace BK337 := Xbb BK337 hb; replace HB := Aside0.mk (below_step Xi hb); clear hb))
 have H := HC4.out
 clear HC4
 obtain ⟨c10, H⟩ | ⟨c10, H⟩ := Xiu H
 ·have c10b0 : (t338 == 0) = true := beq_iff_eq.mpr c10
  have c10b1 : (t338 != 0) = false := bne_eq_false_iff_eq.mpr c10
  clear c10
  (first | rw [c10b0] | (simp only [i64_w, i32_w]; rw [c10b0]) | skip)
  replace H := Option.bind_eq_some_iff.mp H
  obtain ⟨⟨t339, t340, t341⟩, A110, H⟩ := H
  (try dsimp only at H)
  have A11 := Aside0.mk A110
  clear A110
  simp only [Option.some.injEq, Prod.mk.injEq] at H
  obtain ⟨rfl, rfl, rfl, rfl⟩ := H
  go_wp2_with (first | ((with_reducible refine gate_callee (f := 74) rfl ?_); refine Xgo 15 Try.func74 #[.pointer (some ⟨gb336, 0, none⟩), .int .i64 a1] ?_; (with_reducible refine (impl_Doc_sub.calls k gb336 a0_0 a0_1 A0_2 c0_2 l0_2 a1 t339 t340 t341 _ ?side1 ?side2 ?side3 A11.out).mono ?_); (case side1 => exact BK336.out); (case side2 => exact Xc HR0_2); (case side3 => exact HC0_2.out); rintro e w12 ⟨v342, rfl, ho0, hb⟩; refine ⟨_, rfl, ?_⟩; have HO343 := Aside0.mk (Kd.S_lower ho0 (below_size Xi)); replace BK336 := Xbb BK336 hb; replace BK337 := Xbb BK337 hb; replace HB := Aside0.mk (below_step Xi hb); clear hb; (try clear ho0); have hnb13 := NB337_336.out; have hnc13 := NB336_337.out; obtain ⟨hcz14_0, hcz14_1, hcz14_2⟩ := Xc3 BK337; obtain ⟨hfz14_0, hfz14_1, hfz14_2⟩ := Xf3 BK337; obtain ⟨Ao15, co15, eo15⟩ := Kd.S_slice HO343.out; subst eo15) | ((with_reducible refine gate_store (t := 29) (p := 4) rfl ?_); refine store_event (t := 29) (p := 4) (v := ?vo_w16) (w1 := (((w12.setCell ⟨gb337, 0, none⟩ (.int .i64 t339)).setCell ⟨gb337, 1, none⟩ (.int .i64 t340)).setCell ⟨gb337, 2, none⟩ (.slice Ao15 t341.length co15))) ?hg ?ho ?hn ?hr ?_; (case ho => rfl); (case hg => rfl); (case hn => rfl); (case hr => first | (go_simp; done) | (go_simp; rfl)); intro w16 hw; have n0_ : Aside0 (Kd.S k88 88 w16 w.heap.size (fun _ => True) (.slice Ao15 t341.length co15) t341) := ⟨(by rw [hw]; exact (by (with_reducible repeat (first | apply Kd.S_alloc | apply Kd.S_drewN | apply Kd.S_drew)); exact Kd.S_mono (Kd.S_far (p := ⟨gb337, 2, none⟩) (Kd.S_far (p := ⟨gb337, 1, none⟩) (Kd.S_far (p := ⟨gb337, 0, none⟩) (Kd.S_types HO343.out BK337.out (by decide)) (fun _ hk => hk.2) (.int .i64 t339)) (fun _ hk => hk.2) (.int .i64 t340)) (fun _ hk => hk.2) (.slice Ao15 t341.length co15)) (fun _ hk => trivial)))⟩; have n1_ : Aside0 (w16.heap[gb336]? = some (.cells #[.int .i64 a0_0, .int .i64 a0_1, .slice A0_2 l0_2.length c0_2] 29 (0, 0))) := ⟨(by rw [hw]; exact (by (with_reducible repeat (first | refine blk_drewN ?_ _ | refine blk_drew ?_ | refine blk_alloc ?_ _)); refine blk_far ?_ NB336_337.out _; (with_reducible repeat (first | refine blk_drewN ?_ _ | refine blk_drew ?_ | refine blk_alloc ?_ _)); refine blk_far ?_ NB336_337.out _; (with_reducible repeat (first | refine blk_drewN ?_ _ | refine blk_drew ?_ | refine blk_alloc ?_ _)); refine blk_far ?_ NB336_337.out _; (with_reducible repeat (first | refine blk_drewN ?_ _ | refine blk_drew ?_ | refine blk_alloc ?_ _)); exact BK336.out))⟩; have n2_ : Aside0 (w16.heap[gb337]? = some (.cells #[.int .i64 t339, .int .i64 t340, .slice Ao15 t341.length co15] 29 (0, 0))) := ⟨(by rw [hw]; exact (by (with_reducible repeat (first | refine blk_drewN ?_ _ | refine blk_drew ?_ | refine blk_alloc ?_ _)); refine blk_put (cs := #[.int .i64 t339, .int .i64 t340, .slice none 0 0]) ?_ 2 _ rfl; (with_reducible repeat (first | refine blk_drewN ?_ _ | refine blk_drew ?_ | refine blk_alloc ?_ _)); refine blk_put (cs := #[.int .i64 t339, .int .i64 0, .slice none 0 0]) ?_ 1 _ rfl; (with_reducible repeat (first | refine blk_drewN ?_ _ | refine blk_drew ?_ | refine blk_alloc ?_ _)); refine blk_put (cs := #[.int .i64 0, .int .i64 0, .slice none 0 0]) ?_ 0 _ rfl; (with_reducible repeat (first | refine blk_drewN ?_ _ | refine blk_drew ?_ | refine blk_alloc ?_ _)); exact BK337.out))⟩; have n3_ : Aside0 (Below w.heap.size w w16) := ⟨(by rw [hw]; exact Xi)⟩; clear hw; clear HO343; clear BK336; clear BK337; clear HB; have HO343 := n0_; have BK336 := n1_; have BK337 := n2_; have HB := n3_; clear n0_ n1_ n2_ n3_))
  refine bodyPost_ret (results_ct rfl _ _ gb337 29 #[.int .i64 t339, .int .i64 t340, .slice Ao15 t341.length co15] (0, 0) _ rfl BK337.out Try.underlying29 rfl (by kernel_rfl)) rfl ?_
  exact ⟨_, Xe, Xq HO343, Xi⟩
 ·have c10b0 : (t338 == 0) = false := beq_eq_false_iff_ne.mpr c10
  have c10b1 : (t338 != 0) = true := bne_iff_ne.mpr c10
  (first | rw [c10b0] | (simp only [i64_w, i32_w]; rw [c10b0]) | skip)
  simp only [Option.some.injEq, Prod.mk.injEq] at H
  obtain ⟨rfl, rfl, rfl, rfl⟩ := H
  have hnb17 := NB337_336.out
  have hnc17 := NB336_337.out
  obtain ⟨hcz18_0, hcz18_1, hcz18_2⟩ := Xc3 BK337
  obtain ⟨hfz18_0, hfz18_1, hfz18_2⟩ := Xf3 BK337
  go_wp2_with (first | ((with_reducible refine gate_store (t := 29) (p := 4) rfl ?_); refine store_event (t := 29) (p := 4) (v := ?vo_w19) (w1 := (((w9.setCell ⟨gb337, 0, none⟩ (.int .i64 0)).setCell ⟨gb337, 1, none⟩ (.int .i64 0)).setCell ⟨gb337, 2, none⟩ (.slice none 0 0))) ?hg ?ho ?hn ?hr ?_; (case ho => rfl); (case hg => rfl); (case hn => rfl); (case hr => first | (go_simp; done) | (go_simp; rfl)); intro w19 hw; have n0_ : Aside0 (w19.heap[gb336]? = some (.cells #[.int .i64 a0_0, .int .i64 a0_1, .slice A0_2 l0_2.length c0_2] 29 (0, 0))) := ⟨(by rw [hw]; exact (by (with_reducible repeat (first | refine blk_drewN ?_ _ | refine blk_drew ?_ | refine blk_alloc ?_ _)); refine blk_far ?_ NB336_337.out _; (with_reducible repeat (first | refine blk_drewN ?_ _ | refine blk_drew ?_ | refine blk_alloc ?_ _)); refine blk_far ?_ NB336_337.out _; (with_reducible repeat (first | refine blk_drewN ?_ _ | refine blk_drew ?_ | refine blk_alloc ?_ _)); refine blk_far ?_ NB336_337.out _; (with_reducible repeat (first | refine blk_drewN ?_ _ | refine blk_drew ?_ | refine blk_alloc ?_ _)); exact BK336.out))⟩; have n1_ : Aside0 (w19.heap[gb337]? = some (.cells #[.int .i64 0, .int .i64 0, .slice none 0 0] 29 (0, 0))) := ⟨(by rw [hw]; exact (by (with_reducible repeat (first | refine blk_drewN ?_ _ | refine blk_drew ?_ | refine blk_alloc ?_ _)); refine blk_put (cs := #[.int .i64 0, .int .i64 0, .slice none 0 0]) ?_ 2 _ rfl; (with_reducible repeat (first | refine blk_drewN ?_ _ | refine blk_drew ?_ | refine blk_alloc ?_ _)); refine blk_put (cs := #[.int .i64 0, .int .i64 0, .slice none 0 0]) ?_ 1 _ rfl; (with_reducible repeat (first | refine blk_drewN ?_ _ | refine blk_drew ?_ | refine blk_alloc ?_ _)); refine blk_put (cs := #[.int .i64 0, .int .i64 0, .slice none 0 0]) ?_ 0 _ rfl; (with_reducible repeat (first | refine blk_drewN ?_ _ | refine blk_drew ?_ | refine blk_alloc ?_ _)); exact BK337.out))⟩; have n2_ : Aside0 (Below w.heap.size w w19) := ⟨(by rw [hw]; exact Xi)⟩; clear hw; clear BK336; clear BK337; clear HB; have BK336 := n0_; have BK337 := n1_; have HB := n2_; clear n0_ n1_ n2_))
  refine bodyPost_ret (results_ct rfl _ _ gb337 29 #[.int .i64 0, .int .i64 0, .slice none 0 0] (0, 0) _ rfl BK337.out Try.underlying29 rfl (by kernel_rfl)) rfl ?_
  exact ⟨_, Xe, by first | exact Kd.S_nil _ _ _ _ _ | exact Kd.N_nil _ _ _ _ _ | exact Kd.V_nil _ _ _ _ _ | exact Kd.Q_nil _ _ _ _ _ | exact Kd.R_nil _ _ _ _ _, Xi⟩

/-! ### laws_heldIntS: function 25 -/
def laws_heldIntS.l0 : Nat → List Int → Int → Int → Option (Int)
 | 0, _, _, _ => none
 | k + 1, x0, x1, x5 => if x5 < (x0.length : Int) then (if 0 ≤ x5 then (if (rd x0 x5) = x1 then (laws_heldIntS.l0 k x0 (wrap64 (x1 + 1)) (wrap64 (x5 + 1))) else (some (-1))) else (none)) else (some x1)
def laws_heldIntS.f (k : Nat) (l0 : List Int) (a1 : Int) : Option (Int) := laws_heldIntS.l0 k l0 a1 0
set_option maxHeartbeats 8000000 in
set_option maxRecDepth 100000 in
theorem laws_heldIntS.calls (k : Nat) (A0 : Option Addr) (c0 : Nat) (l0 : List Int) (a1 : Int) (r : Int) (w : World) (hr0 : Kd.C (Kd.int .i64) w A0 l0.length l0) (hc0 : l0.length ≤ c0) (h : laws_heldIntS.f k l0 a1 = some r) :
  Calls Try.prog 25 #[.slice A0 l0.length c0, .int .i64 a1] w fun e w' => e = .returned (.int .i64 r) ∧ Drawn0 w w' := by
 have HR0 := Aside0.mk hr0
 have HC0 := Aside0.mk hc0
 clear hr0 hc0
 have H : (laws_heldIntS.l0 k l0 a1 0) = some r := h
 clear h
 have H' := Aside0.mk H
 clear H
 go_enter Try.func25, Try.ntmps25
 go_wp2
 go_loopg [1, 5] k (fun kq v1 v5 w' => ∃ (x1_1 : Int) (x5_1 : Int), v1 = .int .i64 x1_1 ∧ v5 = .int .i64 x5_1 ∧ Aside0 (laws_heldIntS.l0 kq l0 x1_1 x5_1 = some r) ∧ Aside0 (kq ≤ k) ∧ Drawn0 w w')
 case atStart => exact ⟨(a1), (0), Xr, Xr, H', Xkr, by repeat (first | exact Drawn0.refl _ | apply Drawn0.step)⟩
 case round =>
  clear H'
  obtain ⟨x1_1, x5_1, rfl, rfl, HA, HK1, ⟨m1, rfl⟩⟩ := hrel
  cases gk with
  | zero => cases HA.out
  | succ k1 =>
   have H := HA.out
   clear HA
   simp only [laws_heldIntS.l0] at H
   obtain ⟨c3b0, H⟩ | ⟨c3b0, H⟩ := Xit H
   ·obtain ⟨c4b0, H⟩ := Xid H
    obtain ⟨c5, H⟩ | ⟨c5, H⟩ := Xiu H
    ·have c5b0 : ((rd l0 x5_1) == x1_1) = true := beq_iff_eq.mpr c5
     have c5b1 : ((rd l0 x5_1) != x1_1) = false := bne_eq_false_iff_eq.mpr c5
     clear c5
     have H' := Aside0.mk H
     clear H
     have p344 : 0 ≤ (x5_1 : Int) := of_decide_eq_true Xa
     have q344 : x5_1 < (l0.length : Int) := of_decide_eq_true Xa
     obtain ⟨ad344, e344, hx344_0⟩ := Kd.at_int HR0.out x5_1 p344 q344
     cases e344
     replace p344 := eq_true p344
     replace q344 := eq_true q344
     go_wp2
     go_roundg k1
     case measure => have := HK1.out; omega
     case rel => exact ⟨(wrap64 (x1_1 + 1)), (wrap64 (x5_1 + 1)), Xr, Xr, H', Xk1, by repeat (first | exact Drawn0.refl _ | apply Drawn0.step)⟩
    ·have c5b0 : ((rd l0 x5_1) == x1_1) = false := beq_eq_false_iff_ne.mpr c5
     have c5b1 : ((rd l0 x5_1) != x1_1) = true := bne_iff_ne.mpr c5
     obtain rfl := Option.some.inj H
     have p344 : 0 ≤ (x5_1 : Int) := of_decide_eq_true Xa
     have q344 : x5_1 < (l0.length : Int) := of_decide_eq_true Xa
     obtain ⟨ad344, e344, hx344_0⟩ := Kd.at_int HR0.out x5_1 p344 q344
     cases e344
     replace p344 := eq_true p344
     replace q344 := eq_true q344
     go_wp2
     go_ret
     exact ⟨Xr, Xdr⟩
   ·obtain rfl := Option.some.inj H
    go_wp2
    go_ret
    exact ⟨Xr, Xdr⟩

end Go.Proofs.Ytfemohapampkiaa.XA
