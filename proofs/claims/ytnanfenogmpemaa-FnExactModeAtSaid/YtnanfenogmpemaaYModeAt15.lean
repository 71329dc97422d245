/- Contracts of the program's functions: each Go function that is named below comes to what its Lean function says. Written by xprint.py (a program of this session's, over the kit's print). Conditions: each contract's own premises. -/
import Derived.Test.YtnanfenogmpemaaYModeAt0
import Derived.Test.YtnanfenogmpemaaYModeAt14
namespace Go.Proofs.Ytnanfenogmpemaa.XA
open Go.RowKit Go.Proofs.YtnanfenogmpemaaW.PrintWords Go.Proofs.YtnanfenogmpemaaW.PrintLast Go.Proofs.YtnanfenogmpemaaW.PrintMore XW
attribute [local go_sem] max2_int min2_int max_two min_two max_three min_three max_four min_four   -- for this text's walks alone
set_option linter.unusedVariables false
set_option linter.unusedSimpArgs false

/-! ### impl_Doc_path: function 89 -/
def impl_Doc_path.l0 : Nat → Int → List Int → Int → Int → List (S92) → Option (List Int)
 | 0, _, _, _, _, _ => none
 | k + 1, x1, x5, x1000, x1001, x1002 => if x1 = 0 then ((slices_Reverse_int_int.f k x5).bind fun t336 => (some t336)) else (if x5.length < 17592186044416 then ((impl_Doc_parent.f k x1000 x1001 x1002 x1).bind fun t340 => (impl_Doc_path.l0 k t340 (x5 ++ [x1]) x1000 x1001 x1002)) else (none))
def impl_Doc_path.f (k : Nat) (a0_0 : Int) (a0_1 : Int) (l0_2 : List (S92)) (a1 : Int) : Option (List Int) := impl_Doc_path.l0 k a1 ([] : List Int) a0_0 a0_1 l0_2
set_option maxHeartbeats 8000000 in
set_option maxRecDepth 100000 in
theorem impl_Doc_path.calls (k : Nat) (g0_ : Nat) (a0_0 : Int) (a0_1 : Int) (A0_2 : Option Addr) (c0_2 : Nat) (l0_2 : List (S92)) (a1 : Int) (r : List Int) (w : World) (hg0_ : w.heap[g0_]? = some (.cells #[.int .i64 a0_0, .int .i64 a0_1, .slice A0_2 l0_2.length c0_2] 33 (0, 0))) (hr0_2 : Kd.C k92 w A0_2 l0_2.length l0_2) (hc0_2 : l0_2.length ≤ c0_2) (h : impl_Doc_path.f k a0_0 a0_1 l0_2 a1 = some r) :
  Calls Try.prog 89 #[.pointer (some ⟨g0_, 0, none⟩), .int .i64 a1] w fun e w' => ∃ v0_ : Value, e = .returned (v0_) ∧ Kd.R (Kd.int .i64) 3 w' w.heap.size (fun _ => True) v0_ r ∧ Below w.heap.size w w' := by
 have HR0_2 := Aside0.mk hr0_2
 have HC0_2 := Aside0.mk hc0_2
 clear hr0_2 hc0_2
 have BK0 := Aside0.mk hg0_
 clear hg0_
 have HB := Aside0.mk (Below.refl w.heap.size w)
 have H : (impl_Doc_path.l0 k a1 ([] : List Int) a0_0 a0_1 l0_2) = some r := h
 clear h
 have H' := Aside0.mk H
 clear H
 go_enter Try.func89, Try.ntmps89
 go_wp2
 go_loopg [1, 5] k (fun kq v1 v5 w' => ∃ (x1_1 : Int) (x5_1 : List Int), v1 = .int .i64 x1_1 ∧ Aside0 (impl_Doc_path.l0 kq x1_1 x5_1 a0_0 a0_1 l0_2 = some r) ∧ Aside0 (kq ≤ k) ∧ Aside0 (Kd.R (Kd.int .i64) 3 w' w.heap.size (fun _ => True) v5 x5_1) ∧ Aside0 (w'.heap[g0_]? = some (.cells #[.int .i64 a0_0, .int .i64 a0_1, (.slice A0_2 l0_2.length c0_2)] 33 (0, 0))) ∧ Aside0 (Below w.heap.size w w'))
 case atStart => exact ⟨(a1), (([] : List Int)), Xr, H', Xkr, ⟨by first | exact Kd.R_nil _ _ _ _ _ | exact Kd.N_nil _ _ _ _ _ | exact Kd.V_nil _ _ _ _ _ | exact Kd.Q_nil _ _ _ _ _ | exact Kd.S_nil _ _ _ _ _⟩, (Xp BK0), ⟨Xi⟩⟩
 case round =>
  clear H'
  obtain ⟨x1_1, x5_1, rfl, HA, HK1, HO_5, BK0, HB⟩ := hrel
  cases gk with
  | zero => cases HA.out
  | succ k1 =>
   have H := HA.out
   clear HA
   simp only [impl_Doc_path.l0] at H
   obtain ⟨c3, H⟩ | ⟨c3, H⟩ := Xiu H
   ·have c3b0 : (x1_1 == 0) = true := beq_iff_eq.mpr c3
    have c3b1 : (x1_1 != 0) = false := bne_eq_false_iff_eq.mpr c3
    clear c3
    obtain ⟨t336, A4, H⟩ := Xbi H
    (try dsimp only at H)
    obtain rfl := Option.some.inj H
    obtain ⟨Ao5, co5, eo5⟩ := Kd.R_slice HO_5.out
    subst eo5
    go_wp2_with (first | ((with_reducible refine gate_callee (f := 128) rfl ?_); refine Xgo 16 Try.func128 #[.slice Ao5 x5_1.length co5] ?_; (with_reducible refine (slices_Reverse_int_int.calls k1 (fun k_ => some k_ = (.slice Ao5 x5_1.length co5 : Value).ownBlock) (.slice Ao5 x5_1.length co5) x5_1 t336 w _ ?side1 ?side2 A4.out).mono ?_); (case side1 => exact Xi); (case side2 => exact Kd.R_tight rfl HO_5.out); rintro e w6 ⟨rfl, hy0, hb, hkp⟩; refine ⟨_, rfl, ?_⟩; replace BK0 := Aside0.mk (blk_kept (Xq' BK0) hkp (fun hs_ => (fun e_ => (Kd.R_ne HO_5.out BK0.out (by decide)) e_) hs_)); replace HO_5 := Aside0.mk (Kd.R_reok rfl hy0 (fun k_ e_ => HO_5.out.1 k_ e_)); replace HB := Aside0.mk (hb); (try clear hb); (try clear hkp); (try clear hy0)))
    go_ret
    exact ⟨_, Xe, Xq HO_5, Xi⟩
   ·have c3b0 : (x1_1 == 0) = false := beq_eq_false_iff_ne.mpr c3
    have c3b1 : (x1_1 != 0) = true := bne_iff_ne.mpr c3
    obtain ⟨c7, H⟩ | ⟨c7, H⟩ := Xiu H
    ·have LMc7 := Aside0.mk c7
     clear c7
     obtain ⟨y337, hy337⟩ : ∃ y_ : List Int, y_ = (x5_1 ++ [x1_1]) := ⟨_, rfl⟩
     replace H : ((impl_Doc_parent.f k1 a0_0 a0_1 l0_2 x1_1).bind fun t340 => (impl_Doc_path.l0 k1 t340 y337 a0_0 a0_1 l0_2)) = some r := by first | (rw [hy337]; with_reducible exact H) | (have H2_ := (Option.bind_some _ _).symm.trans H; rw [hy337]; with_reducible exact H2_) | (have H2_ := (Option.bind_some _ _).symm.trans H; with_reducible exact H2_) | with_reducible exact H | (rw [hy337]; exact H) | exact H
     have Ny337 := Aside0.mk hy337
     clear hy337
     obtain ⟨t340, A8, H⟩ := Xbi H
     (try dsimp only at H)
     have H' := Aside0.mk H
     clear H
     go_wp2_with (first | ((with_reducible refine gate_builtin (b := .append) (xs := #[.tmp 11, .tmp 13]) rfl ?_); at_builtin; refine Kd.R_append (Kd.int .i64) (w0 := w) w.heap.size rfl (.tmp 11) (.tmp 13) 65 3 (.int .i64 0) 8 rfl Try.underlying65 info3 rfl (by decide) (by omega) u5 x5_1 x1_1 [.int .i64 x1_1] (fun _ => True) (fun _ => False) rfl rfl ?aP (fun _ hk => hk.elim) ?aF ?aO ?aB ?aS ?aL ?_; (case aP => exact rfl); (case aB => exact Xi); (case aF => exact (fun _ _ => trivial)); (case aO => exact (Xq HO_5)); (case aS => exact (below_size Xi)); (case aL => have := LMc7.out; omega); intro v338 w9 ho hb hg hat; rw [← Ny337.out] at ho; replace BK0 := Aside0.mk (blk_grown (g := g0_) (o := .cells #[.int .i64 a0_0, .int .i64 a0_1, .slice A0_2 l0_2.length c0_2] 33 (0, 0)) (Xq' BK0) hg (Kd.R_ne HO_5.out BK0.out (by decide))); replace HB := Aside0.mk (hb); have HO339 := Aside0.mk (ho); clear HO_5; clear ho hb hg hat) | ((with_reducible refine gate_callee (f := 127) rfl ?_); refine Xgo 10 Try.func127 #[.pointer (some ⟨g0_, 0, none⟩), .int .i64 x1_1] ?_; (with_reducible refine (impl_Doc_parent.calls k1 g0_ a0_0 a0_1 A0_2 c0_2 l0_2 x1_1 t340 _ ?side1 ?side2 ?side3 A8.out).mono ?_); (case side1 => exact (Xq' BK0)); (case side2 => exact Xc HR0_2); (case side3 => exact HC0_2.out); rintro e w10 ⟨rfl, hb⟩; refine ⟨_, rfl, ?_⟩; replace HO339 := Aside0.mk (Kd.R_below (Xq HO339) hb); replace BK0 := Xbb BK0 hb; replace HB := Aside0.mk (below_step Xi hb); clear hb))
     go_roundg k1
     case measure => have := HK1.out; omega
     case rel => exact ⟨(t340), (y337), Xr, H', Xk1, (Xp' HO339), (Xp BK0), ⟨Xi⟩⟩
    ·exact absurd H (by simp)

/-! ### impl_Doc_isIn: function 129 -/
def impl_Doc_isIn.f (k : Nat) (a0_0 : Int) (a0_1 : Int) (l0_2 : List (S92)) (a1 : Int) (a2 : Int) : Option (Bool) := (impl_Doc_path.f k a0_0 a0_1 l0_2 a1).bind fun t341 => ((slices_Contains_int_int.f k t341 a2).bind fun t344 => (some t344))
set_option maxHeartbeats 8000000 in
set_option maxRecDepth 100000 in
theorem impl_Doc_isIn.calls (k : Nat) (g0_ : Nat) (a0_0 : Int) (a0_1 : Int) (A0_2 : Option Addr) (c0_2 : Nat) (l0_2 : List (S92)) (a1 : Int) (a2 : Int) (r : Bool) (w : World) (hg0_ : w.heap[g0_]? = some (.cells #[.int .i64 a0_0, .int .i64 a0_1, .slice A0_2 l0_2.length c0_2] 33 (0, 0))) (hr0_2 : Kd.C k92 w A0_2 l0_2.length l0_2) (hc0_2 : l0_2.length ≤ c0_2) (h : impl_Doc_isIn.f k a0_0 a0_1 l0_2 a1 a2 = some r) :
  Calls Try.prog 129 #[.pointer (some ⟨g0_, 0, none⟩), .int .i64 a1, .int .i64 a2] w fun e w' => e = .returned (.bool r) ∧ Below w.heap.size w w' := by
 have HR0_2 := Aside0.mk hr0_2
 have HC0_2 := Aside0.mk hc0_2
 clear hr0_2 hc0_2
 have BK0 := Aside0.mk hg0_
 clear hg0_
 have HB := Aside0.mk (Below.refl w.heap.size w)
 have H : ((impl_Doc_path.f k a0_0 a0_1 l0_2 a1).bind fun t341 => ((slices_Contains_int_int.f k t341 a2).bind fun t344 => (some t344))) = some r := h
 clear h
 obtain ⟨t341, A4, H⟩ := Xbi H
 (try dsimp only at H)
 obtain ⟨t344, A5, H⟩ := Xbi H
 (try dsimp only at H)
 obtain rfl := Option.some.inj H
 go_enter Try.func129, Try.ntmps129
 go_wp2_with (first | ((with_reducible refine gate_callee (f := 89) rfl ?_); refine Xgo 9 Try.func89 #[.pointer (some ⟨g0_, 0, none⟩), .int .i64 a1] ?_; (with_reducible refine (impl_Doc_path.calls k g0_ a0_0 a0_1 A0_2 c0_2 l0_2 a1 t341 _ ?side1 ?side2 ?side3 A4.out).mono ?_); (case side1 => exact BK0.out); (case side2 => repeat (first | exact HR0_2.out | (with_reducible first | refine Kd.C_alloc ?_ _ | refine Kd.C_drewN ?_ _ | refine Kd.C_drew ?_))); (case side3 => exact HC0_2.out); rintro e w6 ⟨v342, rfl, ho0, hb⟩; refine ⟨_, rfl, ?_⟩; have HO343 := Aside0.mk (Kd.R_lower ho0 (below_size Xi)); replace BK0 := Xbb BK0 hb; replace HB := Aside0.mk (below_step Xi hb); clear hb; (try clear ho0); obtain ⟨Ao7, co7, eo7⟩ := Kd.R_slice HO343.out; subst eo7) | ((with_reducible refine gate_callee (f := 148) rfl ?_); refine Xgo 11 Try.func148 #[.slice Ao7 t341.length co7, .int .i64 a2] ?_; (with_reducible refine (slices_Contains_int_int.calls k _ _ t341 a2 t344 _ ?side1 ?side2 A5.out).mono ?_); (case side1 => repeat (first | exact (Kd.R_reads' HO343.out).2.2 | (with_reducible first | refine Kd.C_alloc ?_ _ | refine Kd.C_drewN ?_ _ | refine Kd.C_drew ?_))); (case side2 => exact (Kd.R_reads' HO343.out).2.1); rintro e w' ⟨rfl, ⟨nd, rfl⟩⟩; refine ⟨_, rfl, ?_⟩))
 go_ret
 exact ⟨Xe, Xi⟩

/-! ### impl_intent: function 130 -/
def impl_intent.f (a0 : Int) : Option (Int) := if a0 = 0 then (some 0) else (if a0 = 1 then (some 1) else (if a0 = 3 then (some 1) else (some 2)))
set_option maxHeartbeats 8000000 in
set_option maxRecDepth 100000 in
theorem impl_intent.calls (a0 : Int) (r : Int) (w : World) (h : impl_intent.f a0 = some r) :
  Calls Try.prog 130 #[.int .i64 a0] w fun e w' => e = .returned (.int .i64 r) ∧ Drawn0 w w' := by
 have H : (if a0 = 0 then (some 0) else (if a0 = 1 then (some 1) else (if a0 = 3 then (some 1) else (some 2)))) = some r := h
 clear h
 obtain ⟨c2, H⟩ | ⟨c2, H⟩ := Xiu H
 ·have c2b0 : (a0 == 0) = true := beq_iff_eq.mpr c2
  have c2b1 : (a0 != 0) = false := bne_eq_false_iff_eq.mpr c2
  clear c2
  obtain rfl := Option.some.inj H
  go_enter Try.func130, Try.ntmps130
  go_wp2
  go_ret
  exact ⟨Xr, Xdr⟩
 ·have c2b0 : (a0 == 0) = false := beq_eq_false_iff_ne.mpr c2
  have c2b1 : (a0 != 0) = true := bne_iff_ne.mpr c2
  obtain ⟨c3, H⟩ | ⟨c3, H⟩ := Xiu H
  ·have c3b0 : (a0 == 1) = true := beq_iff_eq.mpr c3
   have c3b1 : (a0 != 1) = false := bne_eq_false_iff_eq.mpr c3
   clear c3
   obtain rfl := Option.some.inj H
   go_enter Try.func130, Try.ntmps130
   go_wp2
   go_ret
   exact ⟨Xr, Xdr⟩
  ·have c3b0 : (a0 == 1) = false := beq_eq_false_iff_ne.mpr c3
   have c3b1 : (a0 != 1) = true := bne_iff_ne.mpr c3
   obtain ⟨c4, H⟩ | ⟨c4, H⟩ := Xiu H
   ·have c4b0 : (a0 == 3) = true := beq_iff_eq.mpr c4
    have c4b1 : (a0 != 3) = false := bne_eq_false_iff_eq.mpr c4
    clear c4
    obtain rfl := Option.some.inj H
    go_enter Try.func130, Try.ntmps130
    go_wp2
    go_ret
    exact ⟨Xr, Xdr⟩
   ·have c4b0 : (a0 == 3) = false := beq_eq_false_iff_ne.mpr c4
    have c4b1 : (a0 != 3) = true := bne_iff_ne.mpr c4
    obtain rfl := Option.some.inj H
    go_enter Try.func130, Try.ntmps130
    go_wp2
    go_ret
    exact ⟨Xr, Xdr⟩

/-! ### impl_Doc_need: function 93 -/
def impl_Doc_need.f (k : Nat) (a0_0 : Int) (a0_1 : Int) (l0_2 : List (S92)) (a1_0 : Int) (a1_1 : Int) (a1_2 : Int) (a2 : Int) : Option (Int) := if a1_1 = a2 then (some a1_2) else ((impl_Doc_isIn.f k a0_0 a0_1 l0_2 a1_1 a2).bind fun t346 => (if t346 = true then ((impl_intent.f a1_2).bind fun t347 => (some t347)) else (some 0)))
set_option maxHeartbeats 8000000 in
set_option maxRecDepth 100000 in
theorem impl_Doc_need.calls (k : Nat) (g0_ : Nat) (a0_0 : Int) (a0_1 : Int) (A0_2 : Option Addr) (c0_2 : Nat) (l0_2 : List (S92)) (a1_0 : Int) (a1_1 : Int) (a1_2 : Int) (a2 : Int) (r : Int) (w : World) (hg0_ : w.heap[g0_]? = some (.cells #[.int .i64 a0_0, .int .i64 a0_1, .slice A0_2 l0_2.length c0_2] 33 (0, 0))) (hr0_2 : Kd.C k92 w A0_2 l0_2.length l0_2) (hc0_2 : l0_2.length ≤ c0_2) (h : impl_Doc_need.f k a0_0 a0_1 l0_2 a1_0 a1_1 a1_2 a2 = some r) :
  Calls Try.prog 93 #[.pointer (some ⟨g0_, 0, none⟩), .agg #[.int .i64 a1_0, .int .i64 a1_1, .int .i64 a1_2], .int .i64 a2] w fun e w' => e = .returned (.int .i64 r) ∧ Below w.heap.size w w' := by
 have hu55 := Try.underlying55
 have HR0_2 := Aside0.mk hr0_2
 have HC0_2 := Aside0.mk hc0_2
 clear hr0_2 hc0_2
 have BK0 := Aside0.mk hg0_
 clear hg0_
 have HB := Aside0.mk (Below.refl w.heap.size w)
 have H : (if a1_1 = a2 then (some a1_2) else ((impl_Doc_isIn.f k a0_0 a0_1 l0_2 a1_1 a2).bind fun t346 => (if t346 = true then ((impl_intent.f a1_2).bind fun t347 => (some t347)) else (some 0)))) = some r := h
 clear h
 have HC4 := Aside0.mk H
 clear H
 go_enter Try.func93, Try.ntmps93
 go_upto_if 7 with (first | ((with_reducible refine gate_dst (N := 4) rfl ?_); refine Xbox 4 #[.int .i64 a1_0, .int .i64 a1_1, .int .i64 a1_2] 55 ?_; intro gb345 hg w5 hbox hb; have BK345 := Aside0.mk (hbox); have GE345 := Xge hg Xi; replace HB := Aside0.mk (below_step Xi hb); have NB0_345 := Xnb hg BK0; have NB345_0 := Xns NB0_345; replace BK0 := Xbb BK0 hb; clear hb hbox hg; have hnb6 := NB345_0.out; have hnc6 := NB0_345.out; obtain ⟨hcz7_0, hcz7_1, hcz7_2⟩ := Xc3 BK345))
 have H := HC4.out
 clear HC4
 obtain ⟨c8, H⟩ | ⟨c8, H⟩ := Xiu H
 ·have c8b0 : (a1_1 == a2) = true := beq_iff_eq.mpr c8
  have c8b1 : (a1_1 != a2) = false := bne_eq_false_iff_eq.mpr c8
  clear c8
  (first | rw [c8b0] | (simp only [i64_w, i32_w]; rw [c8b0]) | skip)
  obtain rfl := Option.some.inj H
  have hnb9 := NB345_0.out
  have hnc9 := NB0_345.out
  obtain ⟨hcz10_0, hcz10_1, hcz10_2⟩ := Xc3 BK345
  go_wp2
  go_ret
  exact ⟨Xe, Xi⟩
 ·have c8b0 : (a1_1 == a2) = false := beq_eq_false_iff_ne.mpr c8
  have c8b1 : (a1_1 != a2) = true := bne_iff_ne.mpr c8
  (first | rw [c8b0] | (simp only [i64_w, i32_w]; rw [c8b0]) | skip)
  obtain ⟨t346, A11, H⟩ := Xbi H
  (try dsimp only at H)
  have HC12 := Aside0.mk H
  clear H
  have hnb13 := NB345_0.out
  have hnc13 := NB0_345.out
  obtain ⟨hcz14_0, hcz14_1, hcz14_2⟩ := Xc3 BK345
  go_upto_if 14 with (first | ((with_reducible refine gate_callee (f := 129) rfl ?_); refine Xgo 19 Try.func129 #[.pointer (some ⟨g0_, 0, none⟩), .int .i64 a1_1, .int .i64 a2] ?_; (with_reducible refine (impl_Doc_isIn.calls k g0_ a0_0 a0_1 A0_2 c0_2 l0_2 a1_1 a2 t346 _ ?side1 ?side2 ?side3 A11.out).mono ?_); (case side1 => exact BK0.out); (case side2 => exact Xc HR0_2); (case side3 => exact HC0_2.out); rintro e w15 ⟨rfl, hb⟩; refine ⟨_, rfl, ?_⟩; replace BK0 := Xbb BK0 hb; replace BK345 := Xbb BK345 hb; replace HB := Aside0.mk (below_step Xi hb); clear hb))
  have H := HC12.out
  clear HC12
  by_cases c16 : t346 = true
  ·subst c16
   (first | rw [if_pos rfl] at H | skip)
   obtain ⟨t347, A17, H⟩ := Xbi H
   (try dsimp only at H)
   obtain rfl := Option.some.inj H
   have hnb18 := NB345_0.out
   have hnc18 := NB0_345.out
   obtain ⟨hcz19_0, hcz19_1, hcz19_2⟩ := Xc3 BK345
   go_wp2_with (first | ((with_reducible refine gate_callee (f := 130) rfl ?_); refine Xgo 22 Try.func130 #[.int .i64 a1_2] ?_; (with_reducible refine (impl_intent.calls a1_2 t347 _ A17.out).mono ?_); rintro e w' ⟨rfl, ⟨nd, rfl⟩⟩; refine ⟨_, rfl, ?_⟩))
   go_ret
   exact ⟨Xe, Xi⟩
  ·replace c16 := Bool.eq_false_iff.mpr c16
   subst c16
   (first | rw [if_neg (show ¬ (false = true) by decide)] at H | skip)
   obtain rfl := Option.some.inj H
   go_wp2
   go_ret
   exact ⟨Xe, Xi⟩

/-! ### impl_Doc_mode: function 52 -/
def impl_Doc_mode.l0 : Nat → Int → Int → Int → List (S55) → Int → Int → Int → Int → List (S92) → Option (Int)
 | 0, _, _, _, _, _, _, _, _, _ => none
 | k + 1, x2, x3, x9, x12, x13, x14, x1000, x1001, x1002 => if x14 < x13 then (if 0 ≤ x14 then (if x14 < (x12.length : Int) then (if ((rd_T55 x12 x14).f0) = x2 then ((impl_Doc_need.f k x1000 x1001 x1002 ((rd_T55 x12 x14).f0) ((rd_T55 x12 x14).f1) ((rd_T55 x12 x14).f2) x3).bind fun t350 => ((impl_joined.f x9 t350).bind fun t351 => (impl_Doc_mode.l0 k x2 x3 t351 x12 x13 (wrap64 (x14 + 1)) x1000 x1001 x1002))) else (impl_Doc_mode.l0 k x2 x3 x9 x12 x13 (wrap64 (x14 + 1)) x1000 x1001 x1002)) else (none)) else (none)) else (some x9)
def impl_Doc_mode.f (k : Nat) (a0_0 : Int) (a0_1 : Int) (l0_2 : List (S92)) (l1 : List (S55)) (a2 : Int) (a3 : Int) : Option (Int) := impl_Doc_mode.l0 k a2 a3 0 l1 (l1.length : Int) 0 a0_0 a0_1 l0_2
set_option maxHeartbeats 8000000 in
set_option maxRecDepth 100000 in
theorem impl_Doc_mode.calls (k : Nat) (g0_ : Nat) (a0_0 : Int) (a0_1 : Int) (A0_2 : Option Addr) (c0_2 : Nat) (l0_2 : List (S92)) (A1 : Option Addr) (c1 : Nat) (l1 : List (S55)) (a2 : Int) (a3 : Int) (r : Int) (w : World) (hg0_ : w.heap[g0_]? = some (.cells #[.int .i64 a0_0, .int .i64 a0_1, .slice A0_2 l0_2.length c0_2] 33 (0, 0))) (hr0_2 : Kd.C k92 w A0_2 l0_2.length l0_2) (hc0_2 : l0_2.length ≤ c0_2) (hr1 : Kd.C k55 w A1 l1.length l1) (hc1 : l1.length ≤ c1) (h : impl_Doc_mode.f k a0_0 a0_1 l0_2 l1 a2 a3 = some r) :
  Calls Try.prog 52 #[.pointer (some ⟨g0_, 0, none⟩), .slice A1 l1.length c1, .int .i64 a2, .int .i64 a3] w fun e w' => e = .returned (.int .i64 r) ∧ Below w.heap.size w w' := by
 have hu55 := Try.underlying55
 have HR0_2 := Aside0.mk hr0_2
 have HC0_2 := Aside0.mk hc0_2
 clear hr0_2 hc0_2
 have HR1 := Aside0.mk hr1
 have HC1 := Aside0.mk hc1
 clear hr1 hc1
 have BK0 := Aside0.mk hg0_
 clear hg0_
 have HB := Aside0.mk (Below.refl w.heap.size w)
 have H : (impl_Doc_mode.l0 k a2 a3 0 l1 (l1.length : Int) 0 a0_0 a0_1 l0_2) = some r := h
 clear h
 have H' := Aside0.mk H
 clear H
 go_enter Try.func52, Try.ntmps52
 go_wp2
 go_loopg [9, 14] k (fun kq v9 v14 w' => ∃ (x9_1 : Int) (x14_1 : Int), v9 = .int .i64 x9_1 ∧ v14 = .int .i64 x14_1 ∧ Aside0 (impl_Doc_mode.l0 kq a2 a3 x9_1 l1 (l1.length : Int) x14_1 a0_0 a0_1 l0_2 = some r) ∧ Aside0 (kq ≤ k) ∧ Aside0 (w'.heap[g0_]? = some (.cells #[.int .i64 a0_0, .int .i64 a0_1, (.slice A0_2 l0_2.length c0_2)] 33 (0, 0))) ∧ Aside0 (Below w.heap.size w w'))
 case atStart => exact ⟨(0), (0), Xr, Xr, H', Xkr, BK0, ⟨Xi⟩⟩
 case round =>
  clear H'
  (try clear c1)
  obtain ⟨x9_1, x14_1, rfl, rfl, HA, HK1, BK0, HB⟩ := hrel
  cases gk with
  | zero => cases HA.out
  | succ k1 =>
   have H := HA.out
   clear HA
   simp only [impl_Doc_mode.l0] at H
   obtain ⟨c5b0, H⟩ | ⟨c5b0, H⟩ := Xit H
   ·obtain ⟨c6b0, H⟩ := Xid H
    obtain ⟨c7b0, H⟩ := Xid H
    have HC8 := Aside0.mk H
    clear H
    obtain ⟨ad348, e348, p348, q348, hx348_0, hx348_1, hx348_2⟩ := at_B55 HR1 x14_1 Xa Xa HB
    cases e348
    go_upto_if 21 with (first | ((with_reducible refine gate_dst (N := 11) rfl ?_); refine Xbox 11 #[.int .i64 0, .int .i64 0, .int .i64 0] 55 ?_; intro gb349 hg w9 hbox hb; have BK349 := Aside0.mk (hbox); have GE349 := Xge hg Xi; replace HB := Aside0.mk (below_step Xi hb); have NB0_349 := Xnb hg BK0; have NB349_0 := Xns NB0_349; replace BK0 := Xbb BK0 hb; clear hb hbox hg; have hnb10 := NB349_0.out; have hnc10 := NB0_349.out; obtain ⟨hcz11_0, hcz11_1, hcz11_2⟩ := Xc3 BK349; obtain ⟨hfz11_0, hfz11_1, hfz11_2⟩ := Xf3 BK349) | ((with_reducible refine gate_store (t := 55) (p := 11) rfl ?_); refine store_event (t := 55) (p := 11) (v := ?vo_w12) (w1 := (((w9.setCell ⟨gb349, 0, none⟩ (.int .i64 ((rd_T55 l1 x14_1).f0))).setCell ⟨gb349, 1, none⟩ (.int .i64 ((rd_T55 l1 x14_1).f1))).setCell ⟨gb349, 2, none⟩ (.int .i64 ((rd_T55 l1 x14_1).f2)))) ?hg ?ho ?hn ?hr ?_; (case ho => rfl); (case hg => rfl); (case hn => rfl); (case hr => first | (go_simp; done) | (go_simp; rfl)); intro w12 hw; have n0_ : Aside0 (w12.heap[g0_]? = some (.cells #[.int .i64 a0_0, .int .i64 a0_1, .slice A0_2 l0_2.length c0_2] 33 (0, 0))) := ⟨(by rw [hw]; exact (by (with_reducible repeat (first | refine blk_drewN ?_ _ | refine blk_drew ?_ | refine blk_alloc ?_ _)); refine blk_far ?_ NB0_349.out _; (with_reducible repeat (first | refine blk_drewN ?_ _ | refine blk_drew ?_ | refine blk_alloc ?_ _)); refine blk_far ?_ NB0_349.out _; (with_reducible repeat (first | refine blk_drewN ?_ _ | refine blk_drew ?_ | refine blk_alloc ?_ _)); refine blk_far ?_ NB0_349.out _; (with_reducible repeat (first | refine blk_drewN ?_ _ | refine blk_drew ?_ | refine blk_alloc ?_ _)); exact BK0.out))⟩; have n1_ : Aside0 (w12.heap[gb349]? = some (.cells #[.int .i64 ((rd_T55 l1 x14_1).f0), .int .i64 ((rd_T55 l1 x14_1).f1), .int .i64 ((rd_T55 l1 x14_1).f2)] 55 (0, 0))) := ⟨(by rw [hw]; exact (by (with_reducible repeat (first | refine blk_drewN ?_ _ | refine blk_drew ?_ | refine blk_alloc ?_ _)); refine blk_put (cs := #[.int .i64 ((rd_T55 l1 x14_1).f0), .int .i64 ((rd_T55 l1 x14_1).f1), .int .i64 0]) ?_ 2 _ rfl; (with_reducible repeat (first | refine blk_drewN ?_ _ | refine blk_drew ?_ | refine blk_alloc ?_ _)); refine blk_put (cs := #[.int .i64 ((rd_T55 l1 x14_1).f0), .int .i64 0, .int .i64 0]) ?_ 1 _ rfl; (with_reducible repeat (first | refine blk_drewN ?_ _ | refine blk_drew ?_ | refine blk_alloc ?_ _)); refine blk_put (cs := #[.int .i64 0, .int .i64 0, .int .i64 0]) ?_ 0 _ rfl; (with_reducible repeat (first | refine blk_drewN ?_ _ | refine blk_drew ?_ | refine blk_alloc ?_ _)); exact BK349.out))⟩; have n2_ : Aside0 (Below w.heap.size w w12) := ⟨(by rw [hw]; exact Xi)⟩; clear hw; clear BK0; clear BK349; clear HB; have BK0 := n0_; have BK349 := n1_; have HB := n2_; clear n0_ n1_ n2_; obtain ⟨hcz13_0, hcz13_1, hcz13_2⟩ := Xc3 BK349; obtain ⟨hfz13_0, hfz13_1, hfz13_2⟩ := Xf3 BK349))
    have H := HC8.out
    clear HC8
    obtain ⟨c14, H⟩ | ⟨c14, H⟩ := Xiu H
    ·have c14b0 : (((rd_T55 l1 x14_1).f0) == a2) = true := beq_iff_eq.mpr c14
     have c14b1 : (((rd_T55 l1 x14_1).f0) != a2) = false := bne_eq_false_iff_eq.mpr c14
     clear c14
     (first | rw [c14b0] | (simp only [i64_w, i32_w]; rw [c14b0]) | skip)
     obtain ⟨t350, A15, H⟩ := Xbi H
     (try dsimp only at H)
     obtain ⟨t351, A16, H⟩ := Xbi H
     (try dsimp only at H)
     have H' := Aside0.mk H
     clear H
     have hnb17 := NB349_0.out
     have hnc17 := NB0_349.out
     obtain ⟨hcz18_0, hcz18_1, hcz18_2⟩ := Xc3 BK349
     obtain ⟨hfz18_0, hfz18_1, hfz18_2⟩ := Xf3 BK349
     go_wp2_with (first | ((with_reducible refine gate_callee (f := 93) rfl ?_); refine Xgo 26 Try.func93 #[.pointer (some ⟨g0_, 0, none⟩), .agg #[.int .i64 ((rd_T55 l1 x14_1).f0), .int .i64 ((rd_T55 l1 x14_1).f1), .int .i64 ((rd_T55 l1 x14_1).f2)], .int .i64 a3] ?_; (with_reducible refine (impl_Doc_need.calls k1 g0_ a0_0 a0_1 A0_2 c0_2 l0_2 ((rd_T55 l1 x14_1).f0) ((rd_T55 l1 x14_1).f1) ((rd_T55 l1 x14_1).f2) a3 t350 _ ?side1 ?side2 ?side3 A15.out).mono ?_); (case side1 => exact BK0.out); (case side2 => exact Xc HR0_2); (case side3 => exact HC0_2.out); rintro e w19 ⟨rfl, hb⟩; refine ⟨_, rfl, ?_⟩; replace BK0 := Xbb BK0 hb; replace BK349 := Xbb BK349 hb; replace HB := Aside0.mk (below_step Xi hb); clear hb) | ((with_reducible refine gate_callee (f := 90) rfl ?_); refine Xgo 27 Try.func90 #[.int .i64 x9_1, .int .i64 t350] ?_; (with_reducible refine (impl_joined.calls x9_1 t350 t351 _ A16.out).mono ?_); rintro e w20 ⟨rfl, hb⟩; refine ⟨_, rfl, ?_⟩; replace BK0 := Xbb BK0 hb; replace BK349 := Xbb BK349 hb; replace HB := Aside0.mk (below_step Xi hb); clear hb))
     go_roundg k1
     case measure => have := HK1.out; omega
     case rel => exact ⟨(t351), (wrap64 (x14_1 + 1)), Xr, Xr, H', Xk1, BK0, ⟨Xi⟩⟩
    ·have c14b0 : (((rd_T55 l1 x14_1).f0) == a2) = false := beq_eq_false_iff_ne.mpr c14
     have c14b1 : (((rd_T55 l1 x14_1).f0) != a2) = true := bne_iff_ne.mpr c14
     (first | rw [c14b0] | (simp only [i64_w, i32_w]; rw [c14b0]) | skip)
     have H' := Aside0.mk H
     clear H
     go_wp2
     go_roundg k1
     case measure => have := HK1.out; omega
     case rel => exact ⟨(x9_1), (wrap64 (x14_1 + 1)), Xr, Xr, H', Xk1, BK0, ⟨Xi⟩⟩
   ·obtain rfl := Option.some.inj H
    go_wp2
    go_ret
    exact ⟨Xe, Xi⟩

/-! ### impl_ModeAt: function 24 -/
def impl_ModeAt.f (k : Nat) (a0_0 : Int) (a0_1 : Int) (l0_2 : List (S92)) (l1 : List (S55)) (a2 : Int) (a3 : Int) : Option (Int × Int) := (impl_locksCode.f k a0_0 a0_1 l0_2 l1 a2 a3).bind fun t353 => (if t353 = 0 then ((impl_Doc_mode.f k a0_0 a0_1 l0_2 l1 a2 a3).bind fun t354 => (some (t354, 0))) else (some (0, t353)))
set_option maxHeartbeats 8000000 in
set_option maxRecDepth 100000 in
theorem impl_ModeAt.calls (k : Nat) (a0_0 : Int) (a0_1 : Int) (A0_2 : Option Addr) (c0_2 : Nat) (l0_2 : List (S92)) (A1 : Option Addr) (c1 : Nat) (l1 : List (S55)) (a2 : Int) (a3 : Int) (r1 : Int) (r2 : Int) (w : World) (hr0_2 : Kd.C k92 w A0_2 l0_2.length l0_2) (hc0_2 : l0_2.length ≤ c0_2) (hr1 : Kd.C k55 w A1 l1.length l1) (hc1 : l1.length ≤ c1) (h : impl_ModeAt.f k a0_0 a0_1 l0_2 l1 a2 a3 = some (r1, r2)) :
  Calls Try.prog 24 #[.agg #[.int .i64 a0_0, .int .i64 a0_1, .slice A0_2 l0_2.length c0_2], .slice A1 l1.length c1, .int .i64 a2, .int .i64 a3] w fun e w' => e = .returned (.tuple #[.int .i64 r1, .int .i64 r2]) ∧ Below w.heap.size w w' := by
 have hu33 := Try.underlying33
 have HR0_2 := Aside0.mk hr0_2
 have HC0_2 := Aside0.mk hc0_2
 clear hr0_2 hc0_2
 have HR1 := Aside0.mk hr1
 have HC1 := Aside0.mk hc1
 clear hr1 hc1
 have HB := Aside0.mk (Below.refl w.heap.size w)
 have H : ((impl_locksCode.f k a0_0 a0_1 l0_2 l1 a2 a3).bind fun t353 => (if t353 = 0 then ((impl_Doc_mode.f k a0_0 a0_1 l0_2 l1 a2 a3).bind fun t354 => (some (t354, 0))) else (some (0, t353)))) = some (r1, r2) := h
 clear h
 obtain ⟨t353, A5, H⟩ := Xbi H
 (try dsimp only at H)
 have HC6 := Aside0.mk H
 clear H
 go_enter Try.func24, Try.ntmps24
 go_upto_if 17 with (first | ((with_reducible refine gate_dst (N := 4) rfl ?_); refine Xbox 4 #[.int .i64 a0_0, .int .i64 a0_1, .slice A0_2 l0_2.length c0_2] 33 ?_; intro gb352 hg w7 hbox hb; have BK352 := Aside0.mk (hbox); have GE352 := Xge hg Xi; replace HB := Aside0.mk (below_step Xi hb); clear hb hbox hg; obtain ⟨hcz8_0, hcz8_1, hcz8_2⟩ := Xc3 BK352) | ((with_reducible refine gate_callee (f := 48) rfl ?_); refine Xgo 15 Try.func48 #[.agg #[.int .i64 a0_0, .int .i64 a0_1, .slice A0_2 l0_2.length c0_2], .slice A1 l1.length c1, .int .i64 a2, .int .i64 a3] ?_; (with_reducible refine (impl_locksCode.calls k a0_0 a0_1 _ _ l0_2 _ _ l1 a2 a3 t353 _ ?side1 ?side2 ?side3 ?side4 A5.out).mono ?_); (case side1 => exact Xc HR0_2); (case side2 => exact HC0_2.out); (case side3 => exact Xc HR1); (case side4 => exact HC1.out); rintro e w9 ⟨rfl, hb⟩; refine ⟨_, rfl, ?_⟩; replace BK352 := Xbb BK352 hb; replace HB := Aside0.mk (below_step Xi hb); clear hb))
 have H := HC6.out
 clear HC6
 obtain ⟨c10, H⟩ | ⟨c10, H⟩ := Xiu H
 ·have c10b0 : (t353 == 0) = true := beq_iff_eq.mpr c10
  have c10b1 : (t353 != 0) = false := bne_eq_false_iff_eq.mpr c10
  clear c10
  (first | rw [c10b0] | (simp only [i64_w, i32_w]; rw [c10b0]) | skip)
  obtain ⟨t354, A11, H⟩ := Xbi H
  (try dsimp only at H)
  simp only [Option.some.injEq, Prod.mk.injEq] at H
  obtain ⟨rfl, rfl⟩ := H
  go_wp2_with (first | ((with_reducible refine gate_callee (f := 52) rfl ?_); refine Xgo 22 Try.func52 #[.pointer (some ⟨gb352, 0, none⟩), .slice A1 l1.length c1, .int .i64 a2, .int .i64 a3] ?_; (with_reducible refine (impl_Doc_mode.calls k gb352 a0_0 a0_1 A0_2 c0_2 l0_2 _ _ l1 a2 a3 t354 _ ?side1 ?side2 ?side3 ?side4 ?side5 A11.out).mono ?_); (case side1 => exact BK352.out); (case side2 => exact Xc HR0_2); (case side3 => exact HC0_2.out); (case side4 => exact Xc HR1); (case side5 => exact HC1.out); rintro e w12 ⟨rfl, hb⟩; refine ⟨_, rfl, ?_⟩; replace BK352 := Xbb BK352 hb; replace HB := Aside0.mk (below_step Xi hb); clear hb))
  go_ret2
  exact ⟨Xe, Xi⟩
 ·have c10b0 : (t353 == 0) = false := beq_eq_false_iff_ne.mpr c10
  have c10b1 : (t353 != 0) = true := bne_iff_ne.mpr c10
  (first | rw [c10b0] | (simp only [i64_w, i32_w]; rw [c10b0]) | skip)
  simp only [Option.some.injEq, Prod.mk.injEq] at H
  obtain ⟨rfl, rfl⟩ := H
  go_wp2
  go_ret2
  exact ⟨Xe, Xi⟩

end Go.Proofs.Ytnanfenogmpemaa.XA
