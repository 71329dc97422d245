/- Contracts of the program's functions: each Go function that is named below comes to what its Lean function says. Written by xprint.py (a program of this session's, over the kit's print). Conditions: each contract's own premises. -/
import Derived.Test.YtnanfenogmpemaaYPeaceful0
import Derived.Test.YtnanfenogmpemaaYPeaceful3
import Derived.Test.YtnanfenogmpemaaYPeaceful5
import Derived.Test.YtnanfenogmpemaaYPeaceful6
import Derived.Test.YtnanfenogmpemaaYPeaceful7
namespace Go.Proofs.Ytnanfenogmpemaa.XA
open Go.RowKit Go.Proofs.YtnanfenogmpemaaW.PrintWords Go.Proofs.YtnanfenogmpemaaW.PrintLast Go.Proofs.YtnanfenogmpemaaW.PrintMore XW
attribute [local go_sem] max2_int min2_int max_two min_two max_three min_three max_four min_four   -- for this text's walks alone
set_option linter.unusedVariables false
set_option linter.unusedSimpArgs false

/-! ### spec_HoldsOK: function 39 -/
def spec_HoldsOK.f (k : Nat) (a0_0 : Int) (a0_1 : Int) (l0_2 : List (S92)) (l1 : List (S55)) : Option (Bool) := if (l1.length : Int) > 4096 then (some false) else ((spec_l02OK.f k a0_0 a0_1 l0_2).bind fun t222 => (if t222 = true then ((spec_l07Holds.f k a0_0 a0_1 l0_2 l1).bind fun t223 => (some t223)) else (some false)))
set_option maxHeartbeats 8000000 in
set_option maxRecDepth 100000 in
theorem spec_HoldsOK.calls (k : Nat) (a0_0 : Int) (a0_1 : Int) (A0_2 : Option Addr) (c0_2 : Nat) (l0_2 : List (S92)) (A1 : Option Addr) (c1 : Nat) (l1 : List (S55)) (r : Bool) (w : World) (hr0_2 : Kd.C k92 w A0_2 l0_2.length l0_2) (hc0_2 : l0_2.length ≤ c0_2) (hr1 : Kd.C k55 w A1 l1.length l1) (hc1 : l1.length ≤ c1) (h : spec_HoldsOK.f k a0_0 a0_1 l0_2 l1 = some r) :
  Calls Try.prog 39 #[.agg #[.int .i64 a0_0, .int .i64 a0_1, .slice A0_2 l0_2.length c0_2], .slice A1 l1.length c1] w fun e w' => e = .returned (.bool r) ∧ Below w.heap.size w w' := by
 have hu33 := Try.underlying33
 have HR0_2 := Aside0.mk hr0_2
 have HC0_2 := Aside0.mk hc0_2
 clear hr0_2 hc0_2
 have HR1 := Aside0.mk hr1
 have HC1 := Aside0.mk hc1
 clear hr1 hc1
 have HB := Aside0.mk (Below.refl w.heap.size w)
 have H : (if (l1.length : Int) > 4096 then (some false) else ((spec_l02OK.f k a0_0 a0_1 l0_2).bind fun t222 => (if t222 = true then ((spec_l07Holds.f k a0_0 a0_1 l0_2 l1).bind fun t223 => (some t223)) else (some false)))) = some r := h
 clear h
 have HC3 := Aside0.mk H
 clear H
 go_enter Try.func39, Try.ntmps39
 go_upto_if 7 with (first | ((with_reducible refine gate_dst (N := 2) rfl ?_); refine Xbox 2 #[.int .i64 a0_0, .int .i64 a0_1, .slice A0_2 l0_2.length c0_2] 33 ?_; intro gb221 hg w4 hbox hb; have BK221 := Aside0.mk (hbox); have GE221 := Xge hg Xi; replace HB := Aside0.mk (below_step Xi hb); clear hb hbox hg))
 have H := HC3.out
 clear HC3
 obtain ⟨c5, H⟩ | ⟨c5, H⟩ := Xiu H
 ·have c5b0 : decide (4096 < (l1.length : Int)) = true := decide_eq_true c5
  have c5b1 : decide (4096 < l1.length) = true := decide_eq_true (by omega)
  clear c5
  (first | rw [c5b0] | (simp only [i64_w, i32_w]; rw [c5b0]) | skip)
  obtain rfl := Option.some.inj H
  go_wp2
  go_ret
  exact ⟨Xe, Xi⟩
 ·have c5b0 : decide (4096 < (l1.length : Int)) = false := decide_eq_false c5
  have c5b1 : decide (4096 < l1.length) = false := decide_eq_false (by omega)
  clear c5
  (first | rw [c5b0] | (simp only [i64_w, i32_w]; rw [c5b0]) | skip)
  obtain ⟨t222, A6, H⟩ := Xbi H
  (try dsimp only at H)
  by_cases c7 : t222 = true
  ·subst c7
   (first | rw [if_pos rfl] at H | skip)
   obtain ⟨t223, A8, H⟩ := Xbi H
   (try dsimp only at H)
   obtain rfl := Option.some.inj H
   obtain ⟨hcz9_0, hcz9_1, hcz9_2⟩ := Xc3 BK221
   go_wp2_with (first | ((with_reducible refine gate_callee (f := 73) rfl ?_); refine Xgo 9 Try.func73 #[.agg #[.int .i64 a0_0, .int .i64 a0_1, .slice A0_2 l0_2.length c0_2]] ?_; (with_reducible refine (spec_l02OK.calls k a0_0 a0_1 _ _ l0_2 true _ ?side1 ?side2 A6.out).mono ?_); (case side1 => exact Xc HR0_2); (case side2 => exact HC0_2.out); rintro e w10 ⟨rfl, hb⟩; refine ⟨_, rfl, ?_⟩; replace BK221 := Xbb BK221 hb; replace HB := Aside0.mk (below_step Xi hb); clear hb; obtain ⟨hcz11_0, hcz11_1, hcz11_2⟩ := Xc3 BK221) | (go_at_call 74; (with_reducible refine (spec_l07Holds.calls k a0_0 a0_1 _ _ l0_2 _ _ l1 t223 _ ?side1 ?side2 ?side3 ?side4 A8.out).mono ?_); (case side1 => exact Xc HR0_2); (case side2 => exact HC0_2.out); (case side3 => exact Xc HR1); (case side4 => exact HC1.out); rintro e w12 ⟨rfl, hb⟩; replace BK221 := Xbb BK221 hb; replace HB := Aside0.mk (below_step Xi hb); clear hb))
   go_ret
   exact ⟨Xe, Xi⟩
  ·replace c7 := Bool.eq_false_iff.mpr c7
   subst c7
   (first | rw [if_neg (show ¬ (false = true) by decide)] at H | skip)
   obtain rfl := Option.some.inj H
   obtain ⟨hcz13_0, hcz13_1, hcz13_2⟩ := Xc3 BK221
   go_wp2_with (first | ((with_reducible refine gate_callee (f := 73) rfl ?_); refine Xgo 9 Try.func73 #[.agg #[.int .i64 a0_0, .int .i64 a0_1, .slice A0_2 l0_2.length c0_2]] ?_; (with_reducible refine (spec_l02OK.calls k a0_0 a0_1 _ _ l0_2 false _ ?side1 ?side2 A6.out).mono ?_); (case side1 => exact Xc HR0_2); (case side2 => exact HC0_2.out); rintro e w14 ⟨rfl, hb⟩; refine ⟨_, rfl, ?_⟩; replace BK221 := Xbb BK221 hb; replace HB := Aside0.mk (below_step Xi hb); clear hb))
   go_ret
   exact ⟨Xe, Xi⟩

/-! ### spec_l02Path: function 87 -/
def spec_l02Path.l0 : Nat → List Int → Int → Int → Int → List (S92) → Option (List Int)
 | 0, _, _, _, _, _ => none
 | k + 1, x5, x6, x225000, x225001, x225002 => if x6 > 0 then ((some (([x6] : List Int) : List Int)).bind fun y228 => (if y228.length + x5.length < 17592186044416 then ((spec_l02Parent.f k x225000 x225001 x225002 x6).bind fun t234 => (spec_l02Path.l0 k (y228 ++ x5) t234 x225000 x225001 x225002)) else (none))) else (some x5)
def spec_l02Path.f (k : Nat) (a0_0 : Int) (a0_1 : Int) (l0_2 : List (S92)) (a1 : Int) : Option (List Int) := spec_l02Path.l0 k (([] : List Int)) a1 a0_0 a0_1 l0_2
set_option maxHeartbeats 8000000 in
set_option maxRecDepth 100000 in
theorem spec_l02Path.calls (k : Nat) (a0_0 : Int) (a0_1 : Int) (A0_2 : Option Addr) (c0_2 : Nat) (l0_2 : List (S92)) (a1 : Int) (r : List Int) (w : World) (hr0_2 : Kd.C k92 w A0_2 l0_2.length l0_2) (hc0_2 : l0_2.length ≤ c0_2) (h : spec_l02Path.f k a0_0 a0_1 l0_2 a1 = some r) :
  Calls Try.prog 87 #[.agg #[.int .i64 a0_0, .int .i64 a0_1, .slice A0_2 l0_2.length c0_2], .int .i64 a1] w fun e w' => ∃ v0_ : Value, e = .returned (v0_) ∧ Kd.R (Kd.int .i64) 3 w' w.heap.size (fun _ => True) v0_ r ∧ Below w.heap.size w w' := by
 have hu33 := Try.underlying33
 have HR0_2 := Aside0.mk hr0_2
 have HC0_2 := Aside0.mk hc0_2
 clear hr0_2 hc0_2
 have HB := Aside0.mk (Below.refl w.heap.size w)
 have H : (spec_l02Path.l0 k (([] : List Int)) a1 a0_0 a0_1 l0_2) = some r := h
 clear h
 obtain ⟨y225, hy225⟩ : ∃ y_ : List Int, y_ = (([] : List Int)) := ⟨_, rfl⟩
 replace H : (spec_l02Path.l0 k y225 a1 a0_0 a0_1 l0_2) = some r := by first | (rw [hy225]; with_reducible exact H) | (have H2_ := (Option.bind_some _ _).symm.trans H; rw [hy225]; with_reducible exact H2_) | (have H2_ := (Option.bind_some _ _).symm.trans H; with_reducible exact H2_) | with_reducible exact H | (rw [hy225]; exact H) | exact H
 have Ny225 := Aside0.mk hy225
 clear hy225
 have H' := Aside0.mk H
 clear H
 go_enter Try.func87, Try.ntmps87
 go_wp2_with (first | ((with_reducible refine gate_dst (N := 2) rfl ?_); refine Xbox 2 #[.int .i64 a0_0, .int .i64 a0_1, .slice A0_2 l0_2.length c0_2] 33 ?_; intro gb224 hg w3 hbox hb; have BK224 := Aside0.mk (hbox); have GE224 := Xge hg Xi; replace HB := Aside0.mk (below_step Xi hb); clear hb hbox hg) | ((with_reducible refine gate_dst (N := 7) rfl ?_); refine Kd.R_lit (Kd.int .i64) _ 3 ?hg (N := 7) ?hd (xs := ([] : List Int)) (inner := []) (ok := fun _ => True) (okp := fun _ => True) ?hr ?hp (fun _ hk => hk) trivial (Below.refl _ _) (Nat.le_refl _) (by simp) ?_; (case hd => rfl); (case hg => rfl); (case hr => first | (go_simp; done) | (go_simp; rfl)); (case hp => exact (Reps.none _ _)); intro v226 w4 ho5 hb hg_ hnew_; clear hg_ hnew_; (first | rw [← Ny225.out] at ho5 | (simp only [Int.reduceToNat] at ho5; rw [← Ny225.out] at ho5)); have HO227 := Aside0.mk (Kd.R_lower ho5 (below_size Xi)); replace BK224 := Xbb BK224 hb; replace HB := Aside0.mk (below_step Xi hb); clear hb ho5))
 go_loopg [5, 6] k (fun kq v5 v6 w' => ∃ (x5_1 : List Int) (x6_1 : Int), v6 = .int .i64 x6_1 ∧ Aside0 (spec_l02Path.l0 kq x5_1 x6_1 a0_0 a0_1 l0_2 = some r) ∧ Aside0 (kq ≤ k) ∧ Aside0 (Kd.R (Kd.int .i64) 3 w' w.heap.size (fun _ => True) v5 x5_1) ∧ Aside0 (w'.heap[gb224]? = some (.cells #[.int .i64 a0_0, .int .i64 a0_1, (.slice A0_2 l0_2.length c0_2)] 33 (0, 0))) ∧ Aside0 (Below w.heap.size w w'))
 case atStart => exact ⟨(y225), (a1), Xr, H', Xkr, (Xp' HO227), (Xp BK224), ⟨Xi⟩⟩
 case round =>
  clear H'
  obtain ⟨x5_1, x6_1, rfl, HA, HK1, HO_5, BK224, HB⟩ := hrel
  cases gk with
  | zero => cases HA.out
  | succ k1 =>
   have H := HA.out
   clear HA
   simp only [spec_l02Path.l0] at H
   obtain ⟨c6, H⟩ | ⟨c6, H⟩ := Xiu H
   ·have c6b0 : decide (0 < x6_1) = true := decide_eq_true c6
    clear c6
    obtain ⟨y228, hy228⟩ : ∃ y_ : List Int, y_ = (([x6_1] : List Int)) := ⟨_, rfl⟩
    replace H : (if y228.length + x5_1.length < 17592186044416 then ((spec_l02Parent.f k1 a0_0 a0_1 l0_2 x6_1).bind fun t234 => (spec_l02Path.l0 k1 (y228 ++ x5_1) t234 a0_0 a0_1 l0_2)) else (none)) = some r := by first | (rw [hy228]; with_reducible exact H) | (have H2_ := (Option.bind_some _ _).symm.trans H; rw [hy228]; with_reducible exact H2_) | (have H2_ := (Option.bind_some _ _).symm.trans H; with_reducible exact H2_) | with_reducible exact H | (rw [hy228]; exact H) | exact H
    have Ny228 := Aside0.mk hy228
    clear hy228
    obtain ⟨c7, H⟩ := Xif H
    have LMc7 := Aside0.mk c7
    clear c7
    obtain ⟨y231, hy231⟩ : ∃ y_ : List Int, y_ = (y228 ++ x5_1) := ⟨_, rfl⟩
    replace H : ((spec_l02Parent.f k1 a0_0 a0_1 l0_2 x6_1).bind fun t234 => (spec_l02Path.l0 k1 y231 t234 a0_0 a0_1 l0_2)) = some r := by first | (rw [hy231]; with_reducible exact H) | (have H2_ := (Option.bind_some _ _).symm.trans H; rw [hy231]; with_reducible exact H2_) | (have H2_ := (Option.bind_some _ _).symm.trans H; with_reducible exact H2_) | with_reducible exact H | (rw [hy231]; exact H) | exact H
    have Ny231 := Aside0.mk hy231
    clear hy231
    obtain ⟨t234, A8, H⟩ := Xbi H
    (try dsimp only at H)
    have H' := Aside0.mk H
    clear H
    go_wp2_with (first | ((with_reducible refine gate_dst (N := 15) rfl ?_); refine Kd.R_lit (Kd.int .i64) _ 3 ?hg (N := 15) ?hd (xs := ([x6_1] : List Int)) (inner := [.int .i64 x6_1]) (ok := fun _ => True) (okp := fun _ => True) ?hr ?hp (fun _ hk => hk) trivial (Below.refl _ _) (Nat.le_refl _) (by simp) ?_; (case hd => rfl); (case hg => rfl); (case hr => first | (go_simp; done) | (go_simp; rfl)); (case hp => exact (Reps.one (show Kd.M (Kd.int .i64) _ _ _ x6_1 [.int .i64 x6_1] from rfl) (Reps.none _ _))); intro v229 w9 ho10 hb hg_ hnew_; clear hg_ hnew_; (first | rw [← Ny228.out] at ho10 | (simp only [Int.reduceToNat] at ho10; rw [← Ny228.out] at ho10)); have HO230 := Aside0.mk (Kd.R_lower (Kd.R_new' ho10 (Kd.R_lt (Xq HO_5))) (below_size Xi)); replace HO_5 := Aside0.mk (Kd.R_elder' (Xq HO_5) (Kd.R_base ho10) hb); replace BK224 := Xbb BK224 hb; replace HB := Aside0.mk (below_step Xi hb); clear hb ho10; obtain ⟨Ao12, co12, eo12⟩ := Kd.R_slice HO_5.out; subst eo12) | ((with_reducible refine gate_builtin (b := .append) (xs := #[.tmp 15, .tmp 16]) rfl ?_); at_builtin; refine Kd.R_append_rows (Kd.int .i64) (w0 := w) w.heap.size rfl (.tmp 15) (.tmp 16) 65 3 (.int .i64 0) 8 rfl Try.underlying65 info3 rfl (by decide) (by omega) v229 y228 x5_1 _ _ _ (fun k_ => some k_ ≠ (.slice Ao12 x5_1.length co12 : Value).ownBlock) (fun _ => False) rfl rfl ?aO ?aR (fun _ _ h => h) (fun _ h => h.elim) ?aF ?aB ?aS ?aL ?_; (case aR => repeat (first | exact (Kd.R_reads' HO_5.out).2.2 | (with_reducible first | refine Kd.C_alloc ?_ _ | refine Kd.C_drewN ?_ _ | refine Kd.C_drew ?_))); (case aB => exact Xi); (case aF => exact (fun k_ hk => Kd.fresh' (Kd.R_lt (Xq HO_5)) k_ hk)); (case aO => exact (by (with_reducible repeat (first | apply Kd.R_alloc | apply Kd.R_drewN | apply Kd.R_drew)); exact Kd.R_mono HO230.out (fun _ hk => hk.2))); (case aS => exact (below_size Xi)); (case aL => have := LMc7.out; omega); intro v232 w11 ho hb hg hat; rw [← Ny231.out] at ho; replace HO_5 := Aside0.mk (Kd.R_after (ok := (fun _ => True)) (Xq HO_5) hg hat); replace BK224 := Aside0.mk (blk_grown (g := gb224) (o := .cells #[.int .i64 a0_0, .int .i64 a0_1, .slice A0_2 l0_2.length c0_2] 33 (0, 0)) (Xq' BK224) hg (Kd.R_ne HO230.out BK224.out (by decide))); replace HB := Aside0.mk (hb); have HO233 := Aside0.mk (ho); clear HO230; clear ho hb hg hat; obtain ⟨hcz13_0, hcz13_1, hcz13_2⟩ := Xc3 BK224) | ((with_reducible refine gate_callee (f := 126) rfl ?_); refine Xgo 13 Try.func126 #[.agg #[.int .i64 a0_0, .int .i64 a0_1, .slice A0_2 l0_2.length c0_2], .int .i64 x6_1] ?_; (with_reducible refine (spec_l02Parent.calls k1 a0_0 a0_1 _ _ l0_2 x6_1 t234 _ ?side1 ?side2 A8.out).mono ?_); (case side1 => exact Xc HR0_2); (case side2 => exact HC0_2.out); rintro e w14 ⟨rfl, hb⟩; refine ⟨_, rfl, ?_⟩; replace HO_5 := Aside0.mk (Kd.R_below (Xq HO_5) hb); replace HO233 := Aside0.mk (Kd.R_below (Xq HO233) hb); replace BK224 := Xbb BK224 hb; replace HB := Aside0.mk (below_step Xi hb); clear hb))
    go_roundg k1
    case measure => have := HK1.out; omega
    case rel => exact ⟨(y231), (t234), Xr, H', Xk1, ⟨by (with_reducible repeat (first | apply Kd.R_alloc | apply Kd.R_drewN | apply Kd.R_drew)); exact Kd.R_mono HO233.out (fun _ hk => trivial)⟩, (Xp BK224), ⟨Xi⟩⟩
   ·have c6b0 : decide (0 < x6_1) = false := decide_eq_false c6
    clear c6
    obtain rfl := Option.some.inj H
    go_wp2
    go_ret
    exact ⟨_, Xe, Xq HO_5, Xi⟩

/-! ### spec_l07Join: function 88 -/
def spec_l07Join.f : Nat → Int → Int → Option (Int)
 | 0, _, _ => none
 | k + 1, a0, a1 => if a0 > a1 then ((spec_l07Join.f k a1 a0).bind fun t235 => (some t235)) else (if a0 = 2 then (if a1 = 3 then (some 4) else (some a1)) else (some a1))
set_option maxHeartbeats 8000000 in
set_option maxRecDepth 100000 in
theorem spec_l07Join.calls (k : Nat) : ∀ (a0 : Int) (a1 : Int) (r : Int) (w : World) (h : spec_l07Join.f k a0 a1 = some r),
  Calls Try.prog 88 #[.int .i64 a0, .int .i64 a1] w fun e w' => e = .returned (.int .i64 r) ∧ Below w.heap.size w w' := by
 induction k using Nat.strongRecOn with
 | _ k ih =>
 intro a0 a1 r w h
 cases k with
 | zero => exact absurd h (by simp [spec_l07Join.f])
 | succ k =>
 simp only [spec_l07Join.f] at h
 have HB := Aside0.mk (Below.refl w.heap.size w)
 have H : (if a0 > a1 then ((spec_l07Join.f k a1 a0).bind fun t235 => (some t235)) else (if a0 = 2 then (if a1 = 3 then (some 4) else (some a1)) else (some a1))) = some r := h
 clear h
 obtain ⟨c3, H⟩ | ⟨c3, H⟩ := Xiu H
 ·have c3b0 : decide (a1 < a0) = true := decide_eq_true c3
  clear c3
  obtain ⟨t235, A4, H⟩ := Xbi H
  (try dsimp only at H)
  obtain rfl := Option.some.inj H
  go_enter Try.func88, Try.ntmps88
  go_wp2_with (first | ((with_reducible refine gate_callee (f := 88) rfl ?_); refine Xgo 10 Try.func88 #[.int .i64 a1, .int .i64 a0] ?_; (with_reducible refine (ih k (by omega) a1 a0 t235 _ A4.out).mono ?_); rintro e w5 ⟨rfl, hb⟩; refine ⟨_, rfl, ?_⟩; replace HB := Aside0.mk (below_step Xi hb); clear hb))
  go_ret
  exact ⟨Xe, Xi⟩
 ·have c3b0 : decide (a1 < a0) = false := decide_eq_false c3
  clear c3
  obtain ⟨c6, H⟩ | ⟨c6, H⟩ := Xiu H
  ·have c6b0 : (a0 == 2) = true := beq_iff_eq.mpr c6
   have c6b1 : (a0 != 2) = false := bne_eq_false_iff_eq.mpr c6
   clear c6
   obtain ⟨c7, H⟩ | ⟨c7, H⟩ := Xiu H
   ·have c7b0 : (a1 == 3) = true := beq_iff_eq.mpr c7
    have c7b1 : (a1 != 3) = false := bne_eq_false_iff_eq.mpr c7
    clear c7
    obtain rfl := Option.some.inj H
    go_enter Try.func88, Try.ntmps88
    go_wp2
    go_ret
    exact ⟨Xe, Xi⟩
   ·have c7b0 : (a1 == 3) = false := beq_eq_false_iff_ne.mpr c7
    have c7b1 : (a1 != 3) = true := bne_iff_ne.mpr c7
    obtain rfl := Option.some.inj H
    go_enter Try.func88, Try.ntmps88
    go_wp2
    go_ret
    exact ⟨Xe, Xi⟩
  ·have c6b0 : (a0 == 2) = false := beq_eq_false_iff_ne.mpr c6
   have c6b1 : (a0 != 2) = true := bne_iff_ne.mpr c6
   obtain rfl := Option.some.inj H
   go_enter Try.func88, Try.ntmps88
   go_wp2
   go_ret
   exact ⟨Xe, Xi⟩

/-! ### spec_l07Intent: function 92 -/
def spec_l07Intent.f (a0 : Int) : Option (Int) := if a0 = 0 then (some 0) else (if a0 = 1 then (some 1) else (if a0 = 3 then (some 1) else (some 2)))
set_option maxHeartbeats 8000000 in
set_option maxRecDepth 100000 in
theorem spec_l07Intent.calls (a0 : Int) (r : Int) (w : World) (h : spec_l07Intent.f a0 = some r) :
  Calls Try.prog 92 #[.int .i64 a0] w fun e w' => e = .returned (.int .i64 r) ∧ Drawn0 w w' := by
 have H : (if a0 = 0 then (some 0) else (if a0 = 1 then (some 1) else (if a0 = 3 then (some 1) else (some 2)))) = some r := h
 clear h
 obtain ⟨c2, H⟩ | ⟨c2, H⟩ := Xiu H
 ·have c2b0 : (a0 == 0) = true := beq_iff_eq.mpr c2
  have c2b1 : (a0 != 0) = false := bne_eq_false_iff_eq.mpr c2
  clear c2
  obtain rfl := Option.some.inj H
  go_enter Try.func92, Try.ntmps92
  go_wp2
  go_ret
  exact ⟨Xr, Xdr⟩
 ·have c2b0 : (a0 == 0) = false := beq_eq_false_iff_ne.mpr c2
  have c2b1 : (a0 != 0) = true := bne_iff_ne.mpr c2
  obtain ⟨c3, H⟩ | ⟨c3, H⟩ := Xiu H
  ·have c3b0 : (a0 == 1) = true := beq_iff_eq.mpr c3
   have c3b1 : (a0 != 1) = false := bne_eq_false_iff_eq.mpr c3
   clear c3
   obtain rfl := Option.some.inj H
   go_enter Try.func92, Try.ntmps92
   go_wp2
   go_ret
   exact ⟨Xr, Xdr⟩
  ·have c3b0 : (a0 == 1) = false := beq_eq_false_iff_ne.mpr c3
   have c3b1 : (a0 != 1) = true := bne_iff_ne.mpr c3
   obtain ⟨c4, H⟩ | ⟨c4, H⟩ := Xiu H
   ·have c4b0 : (a0 == 3) = true := beq_iff_eq.mpr c4
    have c4b1 : (a0 != 3) = false := bne_eq_false_iff_eq.mpr c4
    clear c4
    obtain rfl := Option.some.inj H
    go_enter Try.func92, Try.ntmps92
    go_wp2
    go_ret
    exact ⟨Xr, Xdr⟩
   ·have c4b0 : (a0 == 3) = false := beq_eq_false_iff_ne.mpr c4
    have c4b1 : (a0 != 3) = true := bne_iff_ne.mpr c4
    obtain rfl := Option.some.inj H
    go_enter Try.func92, Try.ntmps92
    go_wp2
    go_ret
    exact ⟨Xr, Xdr⟩

/-! ### spec_l07At: function 51 -/
def spec_l07At.l0 : Nat → List (S55) → Int → Int → Int → Int → Int → Int → List (S92) → Option (Int)
 | 0, _, _, _, _, _, _, _, _ => none
 | k + 1, x1, x2, x3, x9, x10, x237000, x237001, x237002 => if x10 < (x1.length : Int) then (if 0 ≤ x10 then (if ((rd_T55 x1 x10).f0) = x2 then (if ((rd_T55 x1 x10).f1) = x3 then ((spec_l07Join.f k x9 ((rd_T55 x1 x10).f2)).bind fun t239 => (spec_l07At.l0 k x1 x2 x3 t239 (wrap64 (x10 + 1)) x237000 x237001 x237002)) else ((spec_l02Path.f k x237000 x237001 x237002 ((rd_T55 x1 x10).f1)).bind fun t240 => ((spec_l02Has.f k t240 x3).bind fun t243 => (if t243 = true then ((spec_l07Intent.f ((rd_T55 x1 x10).f2)).bind fun t244 => ((spec_l07Join.f k x9 t244).bind fun t245 => (spec_l07At.l0 k x1 x2 x3 t245 (wrap64 (x10 + 1)) x237000 x237001 x237002))) else (spec_l07At.l0 k x1 x2 x3 x9 (wrap64 (x10 + 1)) x237000 x237001 x237002))))) else (spec_l07At.l0 k x1 x2 x3 x9 (wrap64 (x10 + 1)) x237000 x237001 x237002)) else (none)) else (some x9)
def spec_l07At.f (k : Nat) (a0_0 : Int) (a0_1 : Int) (l0_2 : List (S92)) (l1 : List (S55)) (a2 : Int) (a3 : Int) : Option (Int) := spec_l07At.l0 k l1 a2 a3 0 0 a0_0 a0_1 l0_2
set_option maxHeartbeats 8000000 in
set_option maxRecDepth 100000 in
theorem spec_l07At.calls (k : Nat) (a0_0 : Int) (a0_1 : Int) (A0_2 : Option Addr) (c0_2 : Nat) (l0_2 : List (S92)) (A1 : Option Addr) (c1 : Nat) (l1 : List (S55)) (a2 : Int) (a3 : Int) (r : Int) (w : World) (hr0_2 : Kd.C k92 w A0_2 l0_2.length l0_2) (hc0_2 : l0_2.length ≤ c0_2) (hr1 : Kd.C k55 w A1 l1.length l1) (hc1 : l1.length ≤ c1) (h : spec_l07At.f k a0_0 a0_1 l0_2 l1 a2 a3 = some r) :
  Calls Try.prog 51 #[.agg #[.int .i64 a0_0, .int .i64 a0_1, .slice A0_2 l0_2.length c0_2], .slice A1 l1.length c1, .int .i64 a2, .int .i64 a3] w fun e w' => e = .returned (.int .i64 r) ∧ Below w.heap.size w w' := by
 have hu33 := Try.underlying33
 have hu55 := Try.underlying55
 have HR0_2 := Aside0.mk hr0_2
 have HC0_2 := Aside0.mk hc0_2
 clear hr0_2 hc0_2
 have HR1 := Aside0.mk hr1
 have HC1 := Aside0.mk hc1
 clear hr1 hc1
 have HB := Aside0.mk (Below.refl w.heap.size w)
 have H : (spec_l07At.l0 k l1 a2 a3 0 0 a0_0 a0_1 l0_2) = some r := h
 clear h
 have H' := Aside0.mk H
 clear H
 go_enter Try.func51, Try.ntmps51
 go_wp2_with (first | ((with_reducible refine gate_dst (N := 4) rfl ?_); refine Xbox 4 #[.int .i64 a0_0, .int .i64 a0_1, .slice A0_2 l0_2.length c0_2] 33 ?_; intro gb236 hg w5 hbox hb; have BK236 := Aside0.mk (hbox); have GE236 := Xge hg Xi; replace HB := Aside0.mk (below_step Xi hb); clear hb hbox hg))
 go_loopg [9, 10] k (fun kq v9 v10 w' => ∃ (x9_1 : Int) (x10_1 : Int), v9 = .int .i64 x9_1 ∧ v10 = .int .i64 x10_1 ∧ Aside0 (spec_l07At.l0 kq l1 a2 a3 x9_1 x10_1 a0_0 a0_1 l0_2 = some r) ∧ Aside0 (kq ≤ k) ∧ Aside0 (w'.heap[gb236]? = some (.cells #[.int .i64 a0_0, .int .i64 a0_1, (.slice A0_2 l0_2.length c0_2)] 33 (0, 0))) ∧ Aside0 (Below w.heap.size w w'))
 case atStart => exact ⟨(0), (0), Xr, Xr, H', Xkr, BK236, ⟨Xi⟩⟩
 case round =>
  clear H'
  (try clear c1)
  obtain ⟨x9_1, x10_1, rfl, rfl, HA, HK1, BK236, HB⟩ := hrel
  cases gk with
  | zero => cases HA.out
  | succ k1 =>
   have H := HA.out
   clear HA
   simp only [spec_l07At.l0] at H
   obtain ⟨c6b0, H⟩ | ⟨c6b0, H⟩ := Xit H
   ·obtain ⟨c7b0, H⟩ := Xid H
    have HC8 := Aside0.mk H
    clear H
    obtain ⟨ad237, e237, p237, q237, hx237_0, hx237_1, hx237_2⟩ := at_B55 HR1 x10_1 Xa Xa HB
    cases e237
    go_upto_if 25 with (first | ((with_reducible refine gate_dst (N := 11) rfl ?_); refine Xbox 11 #[.int .i64 0, .int .i64 0, .int .i64 0] 55 ?_; intro gb238 hg w9 hbox hb; have BK238 := Aside0.mk (hbox); have GE238 := Xge hg Xi; replace HB := Aside0.mk (below_step Xi hb); have NB236_238 := Xnb hg BK236; have NB238_236 := Xns NB236_238; replace BK236 := Xbb BK236 hb; clear hb hbox hg; have hnb10 := NB238_236.out; have hnc10 := NB236_238.out; obtain ⟨hcz11_0, hcz11_1, hcz11_2⟩ := Xc3 BK238; obtain ⟨hfz11_0, hfz11_1, hfz11_2⟩ := Xf3 BK238) | ((with_reducible refine gate_store (t := 55) (p := 11) rfl ?_); refine store_event (t := 55) (p := 11) (v := ?vo_w12) (w1 := (((w9.setCell ⟨gb238, 0, none⟩ (.int .i64 ((rd_T55 l1 x10_1).f0))).setCell ⟨gb238, 1, none⟩ (.int .i64 ((rd_T55 l1 x10_1).f1))).setCell ⟨gb238, 2, none⟩ (.int .i64 ((rd_T55 l1 x10_1).f2)))) ?hg ?ho ?hn ?hr ?_; (case ho => rfl); (case hg => rfl); (case hn => rfl); (case hr => first | (go_simp; done) | (go_simp; rfl)); intro w12 hw; have n0_ : Aside0 (w12.heap[gb236]? = some (.cells #[.int .i64 a0_0, .int .i64 a0_1, .slice A0_2 l0_2.length c0_2] 33 (0, 0))) := ⟨(by rw [hw]; exact (by (with_reducible repeat (first | refine blk_drewN ?_ _ | refine blk_drew ?_ | refine blk_alloc ?_ _)); refine blk_far ?_ NB236_238.out _; (with_reducible repeat (first | refine blk_drewN ?_ _ | refine blk_drew ?_ | refine blk_alloc ?_ _)); refine blk_far ?_ NB236_238.out _; (with_reducible repeat (first | refine blk_drewN ?_ _ | refine blk_drew ?_ | refine blk_alloc ?_ _)); refine blk_far ?_ NB236_238.out _; (with_reducible repeat (first | refine blk_drewN ?_ _ | refine blk_drew ?_ | refine blk_alloc ?_ _)); exact BK236.out))⟩; have n1_ : Aside0 (w12.heap[gb238]? = some (.cells #[.int .i64 ((rd_T55 l1 x10_1).f0), .int .i64 ((rd_T55 l1 x10_1).f1), .int .i64 ((rd_T55 l1 x10_1).f2)] 55 (0, 0))) := ⟨(by rw [hw]; exact (by (with_reducible repeat (first | refine blk_drewN ?_ _ | refine blk_drew ?_ | refine blk_alloc ?_ _)); refine blk_put (cs := #[.int .i64 ((rd_T55 l1 x10_1).f0), .int .i64 ((rd_T55 l1 x10_1).f1), .int .i64 0]) ?_ 2 _ rfl; (with_reducible repeat (first | refine blk_drewN ?_ _ | refine blk_drew ?_ | refine blk_alloc ?_ _)); refine blk_put (cs := #[.int .i64 ((rd_T55 l1 x10_1).f0), .int .i64 0, .int .i64 0]) ?_ 1 _ rfl; (with_reducible repeat (first | refine blk_drewN ?_ _ | refine blk_drew ?_ | refine blk_alloc ?_ _)); refine blk_put (cs := #[.int .i64 0, .int .i64 0, .int .i64 0]) ?_ 0 _ rfl; (with_reducible repeat (first | refine blk_drewN ?_ _ | refine blk_drew ?_ | refine blk_alloc ?_ _)); exact BK238.out))⟩; have n2_ : Aside0 (Below w.heap.size w w12) := ⟨(by rw [hw]; exact Xi)⟩; clear hw; clear BK236; clear BK238; clear HB; have BK236 := n0_; have BK238 := n1_; have HB := n2_; clear n0_ n1_ n2_; obtain ⟨hcz13_0, hcz13_1, hcz13_2⟩ := Xc3 BK238; obtain ⟨hfz13_0, hfz13_1, hfz13_2⟩ := Xf3 BK238))
    have H := HC8.out
    clear HC8
    obtain ⟨c14, H⟩ | ⟨c14, H⟩ := Xiu H
    ·have c14b0 : (((rd_T55 l1 x10_1).f0) == a2) = true := beq_iff_eq.mpr c14
     have c14b1 : (((rd_T55 l1 x10_1).f0) != a2) = false := bne_eq_false_iff_eq.mpr c14
     clear c14
     (first | rw [c14b0] | (simp only [i64_w, i32_w]; rw [c14b0]) | skip)
     obtain ⟨c15, H⟩ | ⟨c15, H⟩ := Xiu H
     ·have c15b0 : (((rd_T55 l1 x10_1).f1) == a3) = true := beq_iff_eq.mpr c15
      have c15b1 : (((rd_T55 l1 x10_1).f1) != a3) = false := bne_eq_false_iff_eq.mpr c15
      clear c15
      obtain ⟨t239, A16, H⟩ := Xbi H
      (try dsimp only at H)
      have H' := Aside0.mk H
      clear H
      have hnb17 := NB238_236.out
      have hnc17 := NB236_238.out
      obtain ⟨hcz18_0, hcz18_1, hcz18_2⟩ := Xc3 BK238
      obtain ⟨hfz18_0, hfz18_1, hfz18_2⟩ := Xf3 BK238
      go_wp2_with (first | ((with_reducible refine gate_callee (f := 88) rfl ?_); refine Xgo 33 Try.func88 #[.int .i64 x9_1, .int .i64 ((rd_T55 l1 x10_1).f2)] ?_; (with_reducible refine (spec_l07Join.calls k1 x9_1 ((rd_T55 l1 x10_1).f2) t239 _ A16.out).mono ?_); rintro e w19 ⟨rfl, hb⟩; refine ⟨_, rfl, ?_⟩; replace BK236 := Xbb BK236 hb; replace BK238 := Xbb BK238 hb; replace HB := Aside0.mk (below_step Xi hb); clear hb))
      go_roundg k1
      case measure => have := HK1.out; omega
      case rel => exact ⟨(t239), (wrap64 (x10_1 + 1)), Xr, Xr, H', Xk1, BK236, ⟨Xi⟩⟩
     ·have c15b0 : (((rd_T55 l1 x10_1).f1) == a3) = false := beq_eq_false_iff_ne.mpr c15
      have c15b1 : (((rd_T55 l1 x10_1).f1) != a3) = true := bne_iff_ne.mpr c15
      obtain ⟨t240, A20, H⟩ := Xbi H
      (try dsimp only at H)
      obtain ⟨t243, A21, H⟩ := Xbi H
      (try dsimp only at H)
      have HC22 := Aside0.mk H
      clear H
      have hnb23 := NB238_236.out
      have hnc23 := NB236_238.out
      obtain ⟨hcz24_0, hcz24_1, hcz24_2⟩ := Xc3 BK238
      obtain ⟨hfz24_0, hfz24_1, hfz24_2⟩ := Xf3 BK238
      obtain ⟨hcz25_0, hcz25_1, hcz25_2⟩ := Xc3 BK236
      obtain ⟨hfz25_0, hfz25_1, hfz25_2⟩ := Xf3 BK236
      go_upto_if 39 with (first | ((with_reducible refine gate_callee (f := 87) rfl ?_); refine Xgo 37 Try.func87 #[.agg #[.int .i64 a0_0, .int .i64 a0_1, .slice A0_2 l0_2.length c0_2], .int .i64 ((rd_T55 l1 x10_1).f1)] ?_; (with_reducible refine (spec_l02Path.calls k1 a0_0 a0_1 _ _ l0_2 ((rd_T55 l1 x10_1).f1) t240 _ ?side1 ?side2 A20.out).mono ?_); (case side1 => exact Xc HR0_2); (case side2 => exact HC0_2.out); rintro e w26 ⟨v241, rfl, ho0, hb⟩; refine ⟨_, rfl, ?_⟩; have HO242 := Aside0.mk (Kd.R_lower ho0 (below_size Xi)); replace BK236 := Xbb BK236 hb; replace BK238 := Xbb BK238 hb; replace HB := Aside0.mk (below_step Xi hb); clear hb; (try clear ho0); obtain ⟨Ao27, co27, eo27⟩ := Kd.R_slice HO242.out; subst eo27) | ((with_reducible refine gate_callee (f := 91) rfl ?_); refine Xgo 39 Try.func91 #[.slice Ao27 t240.length co27, .int .i64 a3] ?_; (with_reducible refine (spec_l02Has.calls k1 _ _ t240 a3 t243 _ ?side1 ?side2 A21.out).mono ?_); (case side1 => repeat (first | exact (Kd.R_reads' HO242.out).2.2 | (with_reducible first | refine Kd.C_alloc ?_ _ | refine Kd.C_drewN ?_ _ | refine Kd.C_drew ?_))); (case side2 => exact (Kd.R_reads' HO242.out).2.1); rintro e w' ⟨rfl, ⟨nd, rfl⟩⟩; refine ⟨_, rfl, ?_⟩))
      have H := HC22.out
      clear HC22
      by_cases c28 : t243 = true
      ·subst c28
       (first | rw [if_pos rfl] at H | skip)
       obtain ⟨t244, A29, H⟩ := Xbi H
       (try dsimp only at H)
       obtain ⟨t245, A30, H⟩ := Xbi H
       (try dsimp only at H)
       have H' := Aside0.mk H
       clear H
       have hnb31 := NB238_236.out
       have hnc31 := NB236_238.out
       obtain ⟨hcz32_0, hcz32_1, hcz32_2⟩ := Xc3 BK238
       obtain ⟨hfz32_0, hfz32_1, hfz32_2⟩ := Xf3 BK238
       go_wp2_with (first | ((with_reducible refine gate_callee (f := 92) rfl ?_); refine Xgo 43 Try.func92 #[.int .i64 ((rd_T55 l1 x10_1).f2)] ?_; (with_reducible refine (spec_l07Intent.calls ((rd_T55 l1 x10_1).f2) t244 _ A29.out).mono ?_); rintro e w' ⟨rfl, ⟨nd, rfl⟩⟩; refine ⟨_, rfl, ?_⟩) | ((with_reducible refine gate_callee (f := 88) rfl ?_); refine Xgo 44 Try.func88 #[.int .i64 x9_1, .int .i64 t244] ?_; (with_reducible refine (spec_l07Join.calls k1 x9_1 t244 t245 _ A30.out).mono ?_); rintro e w33 ⟨rfl, hb⟩; refine ⟨_, rfl, ?_⟩; replace HO242 := Aside0.mk (Kd.R_below (Xq HO242) hb); replace BK236 := Xbb BK236 hb; replace BK238 := Xbb BK238 hb; replace HB := Aside0.mk (below_step Xi hb); clear hb))
       go_roundg k1
       case measure => have := HK1.out; omega
       case rel => exact ⟨(t245), (wrap64 (x10_1 + 1)), Xr, Xr, H', Xk1, BK236, ⟨Xi⟩⟩
      ·replace c28 := Bool.eq_false_iff.mpr c28
       subst c28
       (first | rw [if_neg (show ¬ (false = true) by decide)] at H | skip)
       have H' := Aside0.mk H
       clear H
       go_wp2
       go_roundg k1
       case measure => have := HK1.out; omega
       case rel => exact ⟨(x9_1), (wrap64 (x10_1 + 1)), Xr, Xr, H', Xk1, BK236, ⟨Xi⟩⟩
    ·have c14b0 : (((rd_T55 l1 x10_1).f0) == a2) = false := beq_eq_false_iff_ne.mpr c14
     have c14b1 : (((rd_T55 l1 x10_1).f0) != a2) = true := bne_iff_ne.mpr c14
     (first | rw [c14b0] | (simp only [i64_w, i32_w]; rw [c14b0]) | skip)
     have H' := Aside0.mk H
     clear H
     go_wp2
     go_roundg k1
     case measure => have := HK1.out; omega
     case rel => exact ⟨(x9_1), (wrap64 (x10_1 + 1)), Xr, Xr, H', Xk1, BK236, ⟨Xi⟩⟩
   ·obtain rfl := Option.some.inj H
    go_wp2
    go_ret
    exact ⟨Xe, Xi⟩

/-! ### spec_l07Sessions: function 102 -/
def spec_l07Sessions.l0 : Nat → List (S55) → List Int → Int → Option (List Int)
 | 0, _, _, _ => none
 | k + 1, x0, x3, x4 => if x4 < (x0.length : Int) then (if (x3.length : Int) = 0 then (if 0 ≤ x4 then (if x3.length < 17592186044416 then (spec_l07Sessions.l0 k x0 (x3 ++ [(rd_T55 x0 x4).f0]) (wrap64 (x4 + 1))) else (none)) else (none)) else (if 0 ≤ (wrap64 ((x3.length : Int) - 1)) then (if (wrap64 ((x3.length : Int) - 1)) < (x3.length : Int) then (if 0 ≤ x4 then (if (rd x3 (wrap64 ((x3.length : Int) - 1))) = ((rd_T55 x0 x4).f0) then (spec_l07Sessions.l0 k x0 x3 (wrap64 (x4 + 1))) else (if x3.length < 17592186044416 then (spec_l07Sessions.l0 k x0 (x3 ++ [(rd_T55 x0 x4).f0]) (wrap64 (x4 + 1))) else (none))) else (none)) else (none)) else (none))) else (some x3)
def spec_l07Sessions.f (k : Nat) (l0 : List (S55)) : Option (List Int) := spec_l07Sessions.l0 k l0 (([] : List Int)) 0
set_option maxHeartbeats 8000000 in
set_option maxRecDepth 100000 in
theorem spec_l07Sessions.calls (k : Nat) (A0 : Option Addr) (c0 : Nat) (l0 : List (S55)) (r : List Int) (w : World) (hr0 : Kd.C k55 w A0 l0.length l0) (hc0 : l0.length ≤ c0) (h : spec_l07Sessions.f k l0 = some r) :
  Calls Try.prog 102 #[.slice A0 l0.length c0] w fun e w' => ∃ v0_ : Value, e = .returned (v0_) ∧ Kd.R (Kd.int .i64) 3 w' w.heap.size (fun _ => True) v0_ r ∧ Below w.heap.size w w' := by
 have HR0 := Aside0.mk hr0
 have HC0 := Aside0.mk hc0
 clear hr0 hc0
 have HB := Aside0.mk (Below.refl w.heap.size w)
 have H : (spec_l07Sessions.l0 k l0 (([] : List Int)) 0) = some r := h
 clear h
 obtain ⟨y246, hy246⟩ : ∃ y_ : List Int, y_ = (([] : List Int)) := ⟨_, rfl⟩
 replace H : (spec_l07Sessions.l0 k l0 y246 0) = some r := by first | (rw [hy246]; with_reducible exact H) | (have H2_ := (Option.bind_some _ _).symm.trans H; rw [hy246]; with_reducible exact H2_) | (have H2_ := (Option.bind_some _ _).symm.trans H; with_reducible exact H2_) | with_reducible exact H | (rw [hy246]; exact H) | exact H
 have Ny246 := Aside0.mk hy246
 clear hy246
 have H' := Aside0.mk H
 clear H
 go_enter Try.func102, Try.ntmps102
 go_wp2_with (first | ((with_reducible refine gate_dst (N := 5) rfl ?_); (try (refine gate_guard (by rfl) ?_; dsimp only)); refine Kd.R_lit (Kd.int .i64) _ 3 ?hg (N := 5) ?hd (xs := ([] : List Int)) (inner := []) (ok := fun _ => True) (okp := fun _ => True) ?hr ?hp (fun _ hk => hk) trivial (Below.refl _ _) (Nat.le_refl _) (by simp) ?_; (case hd => rfl); (case hg => rfl); (case hr => first | (go_simp; done) | (go_simp; rfl)); (case hp => exact (Reps.none _ _)); intro v247 w2 ho3 hb hg_ hnew_; clear hg_ hnew_; (first | rw [← Ny246.out] at ho3 | (simp only [Int.reduceToNat] at ho3; rw [← Ny246.out] at ho3)); have HO248 := Aside0.mk (Kd.R_lower ho3 (below_size Xi)); replace HB := Aside0.mk (below_step Xi hb); clear hb ho3))
 repeat (go_quiet (first | ((with_reducible refine gate_dst (N := 5) rfl ?_); (try (refine gate_guard (by rfl) ?_; dsimp only)); refine Kd.R_lit (Kd.int .i64) _ 3 ?hg (N := 5) ?hd (xs := ([] : List Int)) (inner := []) (ok := fun _ => True) (okp := fun _ => True) ?hr ?hp (fun _ hk => hk) trivial (Below.refl _ _) (Nat.le_refl _) (by simp) ?_; (case hd => rfl); (case hg => rfl); (case hr => first | (go_simp; done) | (go_simp; rfl)); (case hp => exact (Reps.none _ _)); intro v247 w2 ho3 hb hg_ hnew_; clear hg_ hnew_; (first | rw [← Ny246.out] at ho3 | (simp only [Int.reduceToNat] at ho3; rw [← Ny246.out] at ho3)); have HO248 := Aside0.mk (Kd.R_lower ho3 (below_size Xi)); replace HB := Aside0.mk (below_step Xi hb); clear hb ho3)); try go_wp2_with (first | ((with_reducible refine gate_dst (N := 5) rfl ?_); (try (refine gate_guard (by rfl) ?_; dsimp only)); refine Kd.R_lit (Kd.int .i64) _ 3 ?hg (N := 5) ?hd (xs := ([] : List Int)) (inner := []) (ok := fun _ => True) (okp := fun _ => True) ?hr ?hp (fun _ hk => hk) trivial (Below.refl _ _) (Nat.le_refl _) (by simp) ?_; (case hd => rfl); (case hg => rfl); (case hr => first | (go_simp; done) | (go_simp; rfl)); (case hp => exact (Reps.none _ _)); intro v247 w2 ho3 hb hg_ hnew_; clear hg_ hnew_; (first | rw [← Ny246.out] at ho3 | (simp only [Int.reduceToNat] at ho3; rw [← Ny246.out] at ho3)); have HO248 := Aside0.mk (Kd.R_lower ho3 (below_size Xi)); replace HB := Aside0.mk (below_step Xi hb); clear hb ho3)))
 go_loopg [3, 4] k (fun kq v3 v4 w' => ∃ (x3_1 : List Int) (x4_1 : Int), v4 = .int .i64 x4_1 ∧ Aside0 (spec_l07Sessions.l0 kq l0 x3_1 x4_1 = some r) ∧ Aside0 (kq ≤ k) ∧ Aside0 (Kd.R (Kd.int .i64) 3 w' w.heap.size (fun _ => True) v3 x3_1) ∧ Aside0 (Below w.heap.size w w'))
 case atStart => exact ⟨(y246), (0), Xr, H', Xkr, (Xp' HO248), ⟨Xi⟩⟩
 case round =>
  clear H'
  obtain ⟨x3_1, x4_1, rfl, HA, HK1, HO_3, HB⟩ := hrel
  cases gk with
  | zero => cases HA.out
  | succ k1 =>
   have H := HA.out
   clear HA
   simp only [spec_l07Sessions.l0] at H
   obtain ⟨c4b0, H⟩ | ⟨c4b0, H⟩ := Xit H
   ·obtain ⟨c5, H⟩ | ⟨c5, H⟩ := Xiu H
    ·have c5b0 : ((x3_1.length : Int) == 0) = true := beq_iff_eq.mpr c5
     have c5b1 : ((x3_1.length : Int) != 0) = false := bne_eq_false_iff_eq.mpr c5
     clear c5
     obtain ⟨c6b0, H⟩ := Xid H
     obtain ⟨c7, H⟩ := Xif H
     have LMc7 := Aside0.mk c7
     clear c7
     obtain ⟨y250, hy250⟩ : ∃ y_ : List Int, y_ = (x3_1 ++ [(rd_T55 l0 x4_1).f0]) := ⟨_, rfl⟩
     replace H : (spec_l07Sessions.l0 k1 l0 y250 (wrap64 (x4_1 + 1))) = some r := by first | (rw [hy250]; with_reducible exact H) | (have H2_ := (Option.bind_some _ _).symm.trans H; rw [hy250]; with_reducible exact H2_) | (have H2_ := (Option.bind_some _ _).symm.trans H; with_reducible exact H2_) | with_reducible exact H | (rw [hy250]; exact H) | exact H
     have Ny250 := Aside0.mk hy250
     clear hy250
     have H' := Aside0.mk H
     clear H
     obtain ⟨Ao8, co8, eo8⟩ := Kd.R_slice HO_3.out
     subst eo8
     obtain ⟨ad249, e249, p249, q249, hx249_0, hx249_1, hx249_2⟩ := at_B55 HR0 x4_1 Xa Xa HB
     cases e249
     go_wp2_with (first | ((with_reducible refine gate_builtin (b := .append) (xs := #[.tmp 29, .tmp 35]) rfl ?_); (try (refine gate_guard (by rfl) ?_; dsimp only)); at_builtin; refine Kd.R_append (Kd.int .i64) (w0 := w) w.heap.size rfl (.tmp 29) (.tmp 35) 65 3 (.int .i64 0) 8 rfl Try.underlying65 info3 rfl (by decide) (by omega) (.slice Ao8 x3_1.length co8) x3_1 ((rd_T55 l0 x4_1).f0) [.int .i64 ((rd_T55 l0 x4_1).f0)] (fun _ => True) (fun _ => False) rfl rfl ?aP (fun _ hk => hk.elim) ?aF ?aO ?aB ?aS ?aL ?_; (case aP => exact rfl); (case aB => exact Xi); (case aF => exact (fun _ _ => trivial)); (case aO => exact (Xq HO_3)); (case aS => exact (below_size Xi)); (case aL => have := LMc7.out; omega); intro v251 w9 ho hb hg hat; rw [← Ny250.out] at ho; replace HB := Aside0.mk (hb); have HO252 := Aside0.mk (ho); clear HO_3; clear ho hb hg hat))
     repeat (go_quiet (first | ((with_reducible refine gate_builtin (b := .append) (xs := #[.tmp 29, .tmp 35]) rfl ?_); (try (refine gate_guard (by rfl) ?_; dsimp only)); at_builtin; refine Kd.R_append (Kd.int .i64) (w0 := w) w.heap.size rfl (.tmp 29) (.tmp 35) 65 3 (.int .i64 0) 8 rfl Try.underlying65 info3 rfl (by decide) (by omega) (.slice Ao8 x3_1.length co8) x3_1 ((rd_T55 l0 x4_1).f0) [.int .i64 ((rd_T55 l0 x4_1).f0)] (fun _ => True) (fun _ => False) rfl rfl ?aP (fun _ hk => hk.elim) ?aF ?aO ?aB ?aS ?aL ?_; (case aP => exact rfl); (case aB => exact Xi); (case aF => exact (fun _ _ => trivial)); (case aO => exact (Xq HO_3)); (case aS => exact (below_size Xi)); (case aL => have := LMc7.out; omega); intro v251 w9 ho hb hg hat; rw [← Ny250.out] at ho; replace HB := Aside0.mk (hb); have HO252 := Aside0.mk (ho); clear HO_3; clear ho hb hg hat)); try go_wp2_with (first | ((with_reducible refine gate_builtin (b := .append) (xs := #[.tmp 29, .tmp 35]) rfl ?_); (try (refine gate_guard (by rfl) ?_; dsimp only)); at_builtin; refine Kd.R_append (Kd.int .i64) (w0 := w) w.heap.size rfl (.tmp 29) (.tmp 35) 65 3 (.int .i64 0) 8 rfl Try.underlying65 info3 rfl (by decide) (by omega) (.slice Ao8 x3_1.length co8) x3_1 ((rd_T55 l0 x4_1).f0) [.int .i64 ((rd_T55 l0 x4_1).f0)] (fun _ => True) (fun _ => False) rfl rfl ?aP (fun _ hk => hk.elim) ?aF ?aO ?aB ?aS ?aL ?_; (case aP => exact rfl); (case aB => exact Xi); (case aF => exact (fun _ _ => trivial)); (case aO => exact (Xq HO_3)); (case aS => exact (below_size Xi)); (case aL => have := LMc7.out; omega); intro v251 w9 ho hb hg hat; rw [← Ny250.out] at ho; replace HB := Aside0.mk (hb); have HO252 := Aside0.mk (ho); clear HO_3; clear ho hb hg hat)))
     go_roundg k1
     case measure => have := HK1.out; omega
     case rel => exact ⟨(y250), (wrap64 (x4_1 + 1)), Xr, H', Xk1, (Xp' HO252), ⟨Xi⟩⟩
    ·have c5b0 : ((x3_1.length : Int) == 0) = false := beq_eq_false_iff_ne.mpr c5
     have c5b1 : ((x3_1.length : Int) != 0) = true := bne_iff_ne.mpr c5
     have c5b2 : ¬ (x3_1 = []) := fun h_ => c5 (by rw [h_]; rfl)
     obtain ⟨ji10, hji10⟩ : ∃ j_ : Int, (wrap64 ((x3_1.length : Int) - 1)) = j_ := ⟨_, rfl⟩
     replace H : (if 0 ≤ (ji10) then (if (ji10) < (x3_1.length : Int) then (if 0 ≤ x4_1 then (if (rd x3_1 (ji10)) = ((rd_T55 l0 x4_1).f0) then (spec_l07Sessions.l0 k1 l0 x3_1 (wrap64 (x4_1 + 1))) else (if x3_1.length < 17592186044416 then (spec_l07Sessions.l0 k1 l0 (x3_1 ++ [(rd_T55 l0 x4_1).f0]) (wrap64 (x4_1 + 1))) else (none))) else (none)) else (none)) else (none)) = some r := by first | (rw [hji10] at H; exact H) | (simp only [hji10] at H ⊢; exact H)
     have hji10w : (IntKind.i64.wrap ((x3_1.length : Int) - 1)) = ji10 := (i64_w _).trans hji10
     obtain ⟨c11b0, H⟩ := Xid H
     obtain ⟨c12b0, H⟩ := Xid H
     obtain ⟨c13b0, H⟩ := Xid H
     obtain ⟨c14, H⟩ | ⟨c14, H⟩ := Xiu H
     ·have c14b0 : ((rd x3_1 (ji10)) == ((rd_T55 l0 x4_1).f0)) = true := beq_iff_eq.mpr c14
      have c14b1 : ((rd x3_1 (ji10)) != ((rd_T55 l0 x4_1).f0)) = false := bne_eq_false_iff_eq.mpr c14
      clear c14
      have H' := Aside0.mk H
      clear H
      obtain ⟨Ao15, co15, eo15⟩ := Kd.R_slice HO_3.out
      subst eo15
      have p253 : 0 ≤ ((ji10) : Int) := of_decide_eq_true Xa
      have q253 : (ji10) < (x3_1.length : Int) := of_decide_eq_true Xa
      obtain ⟨ad253, e253, hx253_0⟩ := Kd.at_int (Kd.R_reads' HO_3.out).2.2 (ji10) p253 q253
      cases e253
      replace p253 := eq_true p253
      replace q253 := eq_true q253
      obtain ⟨ad254, e254, p254, q254, hx254_0, hx254_1, hx254_2⟩ := at_B55 HR0 x4_1 Xa Xa HB
      cases e254
      go_wp2
      repeat (go_quiet (fail); try go_wp2)
      go_roundg k1
      case measure => have := HK1.out; omega
      case rel => exact ⟨(x3_1), (wrap64 (x4_1 + 1)), Xr, H', Xk1, (Xp' HO_3), ⟨Xi⟩⟩
     ·have c14b0 : ((rd x3_1 (ji10)) == ((rd_T55 l0 x4_1).f0)) = false := beq_eq_false_iff_ne.mpr c14
      have c14b1 : ((rd x3_1 (ji10)) != ((rd_T55 l0 x4_1).f0)) = true := bne_iff_ne.mpr c14
      obtain ⟨c16, H⟩ := Xif H
      have LMc16 := Aside0.mk c16
      clear c16
      obtain ⟨y256, hy256⟩ : ∃ y_ : List Int, y_ = (x3_1 ++ [(rd_T55 l0 x4_1).f0]) := ⟨_, rfl⟩
      replace H : (spec_l07Sessions.l0 k1 l0 y256 (wrap64 (x4_1 + 1))) = some r := by first | (rw [hy256]; with_reducible exact H) | (have H2_ := (Option.bind_some _ _).symm.trans H; rw [hy256]; with_reducible exact H2_) | (have H2_ := (Option.bind_some _ _).symm.trans H; with_reducible exact H2_) | with_reducible exact H | (rw [hy256]; exact H) | exact H
      have Ny256 := Aside0.mk hy256
      clear hy256
      have H' := Aside0.mk H
      clear H
      obtain ⟨Ao17, co17, eo17⟩ := Kd.R_slice HO_3.out
      subst eo17
      have p253 : 0 ≤ ((ji10) : Int) := of_decide_eq_true Xa
      have q253 : (ji10) < (x3_1.length : Int) := of_decide_eq_true Xa
      obtain ⟨ad253, e253, hx253_0⟩ := Kd.at_int (Kd.R_reads' HO_3.out).2.2 (ji10) p253 q253
      cases e253
      replace p253 := eq_true p253
      replace q253 := eq_true q253
      obtain ⟨ad254, e254, p254, q254, hx254_0, hx254_1, hx254_2⟩ := at_B55 HR0 x4_1 Xa Xa HB
      cases e254
      obtain ⟨ad255, e255, p255, q255, hx255_0, hx255_1, hx255_2⟩ := at_B55 HR0 x4_1 Xa Xa HB
      obtain rfl : ad254 = ad255 := (by injection e255)
      go_wp2_with (first | ((with_reducible refine gate_builtin (b := .append) (xs := #[.tmp 29, .tmp 35]) rfl ?_); (try (refine gate_guard (by rfl) ?_; dsimp only)); at_builtin; refine Kd.R_append (Kd.int .i64) (w0 := w) w.heap.size rfl (.tmp 29) (.tmp 35) 65 3 (.int .i64 0) 8 rfl Try.underlying65 info3 rfl (by decide) (by omega) (.slice (some ad253) x3_1.length co17) x3_1 ((rd_T55 l0 x4_1).f0) [.int .i64 ((rd_T55 l0 x4_1).f0)] (fun _ => True) (fun _ => False) rfl rfl ?aP (fun _ hk => hk.elim) ?aF ?aO ?aB ?aS ?aL ?_; (case aP => exact rfl); (case aB => exact Xi); (case aF => exact (fun _ _ => trivial)); (case aO => exact (Xq HO_3)); (case aS => exact (below_size Xi)); (case aL => have := LMc16.out; omega); intro v257 w18 ho hb hg hat; rw [← Ny256.out] at ho; replace HB := Aside0.mk (hb); have HO258 := Aside0.mk (ho); clear HO_3; clear ho hb hg hat))
      repeat (go_quiet (first | ((with_reducible refine gate_builtin (b := .append) (xs := #[.tmp 29, .tmp 35]) rfl ?_); (try (refine gate_guard (by rfl) ?_; dsimp only)); at_builtin; refine Kd.R_append (Kd.int .i64) (w0 := w) w.heap.size rfl (.tmp 29) (.tmp 35) 65 3 (.int .i64 0) 8 rfl Try.underlying65 info3 rfl (by decide) (by omega) (.slice (some ad253) x3_1.length co17) x3_1 ((rd_T55 l0 x4_1).f0) [.int .i64 ((rd_T55 l0 x4_1).f0)] (fun _ => True) (fun _ => False) rfl rfl ?aP (fun _ hk => hk.elim) ?aF ?aO ?aB ?aS ?aL ?_; (case aP => exact rfl); (case aB => exact Xi); (case aF => exact (fun _ _ => trivial)); (case aO => exact (Xq HO_3)); (case aS => exact (below_size Xi)); (case aL => have := LMc16.out; omega); intro v257 w18 ho hb hg hat; rw [← Ny256.out] at ho; replace HB := Aside0.mk (hb); have HO258 := Aside0.mk (ho); clear HO_3; clear ho hb hg hat)); try go_wp2_with (first | ((with_reducible refine gate_builtin (b := .append) (xs := #[.tmp 29, .tmp 35]) rfl ?_); (try (refine gate_guard (by rfl) ?_; dsimp only)); at_builtin; refine Kd.R_append (Kd.int .i64) (w0 := w) w.heap.size rfl (.tmp 29) (.tmp 35) 65 3 (.int .i64 0) 8 rfl Try.underlying65 info3 rfl (by decide) (by omega) (.slice (some ad253) x3_1.length co17) x3_1 ((rd_T55 l0 x4_1).f0) [.int .i64 ((rd_T55 l0 x4_1).f0)] (fun _ => True) (fun _ => False) rfl rfl ?aP (fun _ hk => hk.elim) ?aF ?aO ?aB ?aS ?aL ?_; (case aP => exact rfl); (case aB => exact Xi); (case aF => exact (fun _ _ => trivial)); (case aO => exact (Xq HO_3)); (case aS => exact (below_size Xi)); (case aL => have := LMc16.out; omega); intro v257 w18 ho hb hg hat; rw [← Ny256.out] at ho; replace HB := Aside0.mk (hb); have HO258 := Aside0.mk (ho); clear HO_3; clear ho hb hg hat)))
      go_roundg k1
      case measure => have := HK1.out; omega
      case rel => exact ⟨(y256), (wrap64 (x4_1 + 1)), Xr, H', Xk1, (Xp' HO258), ⟨Xi⟩⟩
   ·obtain rfl := Option.some.inj H
    go_wp2
    repeat (go_quiet (fail); try go_wp2)
    go_ret
    exact ⟨_, Xe, Xq HO_3, Xi⟩

end Go.Proofs.Ytnanfenogmpemaa.XA
