/- Contracts of the program's functions: each Go function that is named below comes to what its Lean function says. Written by xprint.py (a program of this session's, over the kit's print). Conditions: each contract's own premises. -/
import Derived.Test.YtocelbmpnjnnbaaYPutHold0
import Derived.Test.YtocelbmpnjnnbaaYPutHold1
namespace Go.Proofs.Ytocelbmpnjnnbaa.XA
open Go.RowKit Go.Proofs.YtocelbmpnjnnbaaW.PrintWords Go.Proofs.YtocelbmpnjnnbaaW.PrintLast Go.Proofs.YtocelbmpnjnnbaaW.PrintMore XW
attribute [local go_sem] max2_int min2_int max_two min_two max_three min_three max_four min_four   -- for this text's walks alone
set_option linter.unusedVariables false
set_option linter.unusedSimpArgs false

/-! ### spec_l02Parent: function 191 -/
def spec_l02Parent.l0 : Nat → Int → Int → Int → Int → List (S64) → Option (Int)
 | 0, _, _, _, _, _ => none
 | k + 1, x1, x5, x134000, x134001, x134002 => if x5 < (x134002.length : Int) then (if 0 ≤ x5 then ((spec_l02Has.f k ((rd_T64 x134002 x5).f4) x1).bind fun t135 => (if t135 = true then (some ((rd_T64 x134002 x5).f0)) else (spec_l02Parent.l0 k x1 (wrap64 (x5 + 1)) x134000 x134001 x134002))) else (none)) else (some 0)
def spec_l02Parent.f (k : Nat) (a0_0 : Int) (a0_1 : Int) (l0_2 : List (S64)) (a1 : Int) : Option (Int) := spec_l02Parent.l0 k a1 0 a0_0 a0_1 l0_2
set_option maxHeartbeats 8000000 in
set_option maxRecDepth 100000 in
theorem spec_l02Parent.calls (k : Nat) (a0_0 : Int) (a0_1 : Int) (A0_2 : Option Addr) (c0_2 : Nat) (l0_2 : List (S64)) (a1 : Int) (r : Int) (w : World) (hr0_2 : Kd.C k64 w A0_2 l0_2.length l0_2) (hc0_2 : l0_2.length ≤ c0_2) (h : spec_l02Parent.f k a0_0 a0_1 l0_2 a1 = some r) :
  Calls Try.prog 191 #[.agg #[.int .i64 a0_0, .int .i64 a0_1, .slice A0_2 l0_2.length c0_2], .int .i64 a1] w fun e w' => e = .returned (.int .i64 r) ∧ Below w.heap.size w w' := by
 have hu35 := Try.underlying35
 have HR0_2 := Aside0.mk hr0_2
 have HC0_2 := Aside0.mk hc0_2
 clear hr0_2 hc0_2
 have HB := Aside0.mk (Below.refl w.heap.size w)
 have H : (spec_l02Parent.l0 k a1 0 a0_0 a0_1 l0_2) = some r := h
 clear h
 have H' := Aside0.mk H
 clear H
 go_enter Try.func191, Try.ntmps191
 go_wp2_with (first | ((with_reducible refine gate_dst (N := 2) rfl ?_); refine Xbox 2 #[.int .i64 a0_0, .int .i64 a0_1, .slice A0_2 l0_2.length c0_2] 35 ?_; intro gb133 hg w3 hbox hb; have BK133 := Aside0.mk (hbox); have GE133 := Xge hg Xi; replace HB := Aside0.mk (below_step Xi hb); clear hb hbox hg))
 go_loopg [5] k (fun kq v5 w' => ∃ (x5_1 : Int), v5 = .int .i64 x5_1 ∧ Aside0 (spec_l02Parent.l0 kq a1 x5_1 a0_0 a0_1 l0_2 = some r) ∧ Aside0 (kq ≤ k) ∧ Aside0 (w'.heap[gb133]? = some (.cells #[.int .i64 a0_0, .int .i64 a0_1, (.slice A0_2 l0_2.length c0_2)] 35 (0, 0))) ∧ Aside0 (Below w.heap.size w w'))
 case atStart => exact ⟨(0), Xr, H', Xkr, BK133, ⟨Xi⟩⟩
 case round =>
  clear H'
  obtain ⟨x5_1, rfl, HA, HK1, BK133, HB⟩ := hrel
  cases gk with
  | zero => cases HA.out
  | succ k1 =>
   have H := HA.out
   clear HA
   simp only [spec_l02Parent.l0] at H
   obtain ⟨c4b0, H⟩ | ⟨c4b0, H⟩ := Xit H
   ·obtain ⟨c5b0, H⟩ := Xid H
    obtain ⟨t135, A6, H⟩ := Xbi H
    (try dsimp only at H)
    have HC7 := Aside0.mk H
    clear H
    obtain ⟨hcz8_0, hcz8_1, hcz8_2⟩ := Xc3 BK133
    obtain ⟨ad134, A134_4, c134_4, e134, p134, q134, hx134_0, hx134_1, hx134_2, hx134_3, hx134_4, HC134_4, HR134_4⟩ := at_B64 HR0_2 x5_1 Xa Xa HB
    cases e134
    go_upto_if 20 with (first | ((with_reducible refine gate_callee (f := 152) rfl ?_); refine Xgo 20 Try.func152 #[.slice A134_4 ((rd_T64 l0_2 x5_1).f4).length c134_4, .int .i64 a1] ?_; (with_reducible refine (spec_l02Has.calls k1 _ _ ((rd_T64 l0_2 x5_1).f4) a1 t135 _ ?side1 ?side2 A6.out).mono ?_); (case side1 => exact Xc HR134_4); (case side2 => exact HC134_4.out); rintro e w' ⟨rfl, ⟨nd, rfl⟩⟩; refine ⟨_, rfl, ?_⟩))
    have H := HC7.out
    clear HC7
    by_cases c9 : t135 = true
    ·subst c9
     (first | rw [if_pos rfl] at H | skip)
     obtain rfl := Option.some.inj H
     obtain ⟨hcz10_0, hcz10_1, hcz10_2⟩ := Xc3 BK133
     obtain ⟨ad136, A136_4, c136_4, e136, p136, q136, hx136_0, hx136_1, hx136_2, hx136_3, hx136_4, HC136_4, HR136_4⟩ := at_B64 HR0_2 x5_1 Xa Xa HB
     obtain rfl : ad134 = ad136 := (by injection e136)
     go_wp2
     go_ret
     exact ⟨Xe, Xi⟩
    ·replace c9 := Bool.eq_false_iff.mpr c9
     subst c9
     (first | rw [if_neg (show ¬ (false = true) by decide)] at H | skip)
     have H' := Aside0.mk H
     clear H
     go_wp2
     go_roundg k1
     case measure => have := HK1.out; omega
     case rel => exact ⟨(wrap64 (x5_1 + 1)), Xr, H', Xk1, BK133, ⟨Xi⟩⟩
   ·obtain rfl := Option.some.inj H
    obtain ⟨hcz11_0, hcz11_1, hcz11_2⟩ := Xc3 BK133
    go_wp2
    go_ret
    exact ⟨Xe, Xi⟩

/-! ### spec_l02Reach: function 193 -/
mutual
def spec_l02Reach.l0 : Nat → Int → Int → Int → List (S64) → Option (Bool)
 | 0, _, _, _, _ => none
 | k + 1, x3, x138000, x138001, x138002 => if x3 < (x138002.length : Int) then (if 0 ≤ x3 then (spec_l02Reach.l1 k x3 ((rd_T64 x138002 x3).f0) 0 x138000 x138001 x138002) else (none)) else (some true)
def spec_l02Reach.l1 : Nat → Int → Int → Int → Int → Int → List (S64) → Option (Bool)
 | 0, _, _, _, _, _, _ => none
 | k + 1, x3, x4, x5, x138000, x138001, x138002 => if x4 = x138000 then (spec_l02Reach.l0 k (wrap64 (x3 + 1)) x138000 x138001 x138002) else (if x4 > 0 then (if x5 ≤ (x138002.length : Int) then ((spec_l02Parent.f k x138000 x138001 x138002 x4).bind fun t139 => (spec_l02Reach.l1 k x3 t139 (wrap64 (x5 + 1)) x138000 x138001 x138002)) else (some false)) else (some false))
end
def spec_l02Reach.f (k : Nat) (a0_0 : Int) (a0_1 : Int) (l0_2 : List (S64)) : Option (Bool) := spec_l02Reach.l0 k 0 a0_0 a0_1 l0_2
set_option maxHeartbeats 8000000 in
set_option maxRecDepth 100000 in
theorem spec_l02Reach.calls (k : Nat) (a0_0 : Int) (a0_1 : Int) (A0_2 : Option Addr) (c0_2 : Nat) (l0_2 : List (S64)) (r : Bool) (w : World) (hr0_2 : Kd.C k64 w A0_2 l0_2.length l0_2) (hc0_2 : l0_2.length ≤ c0_2) (h : spec_l02Reach.f k a0_0 a0_1 l0_2 = some r) :
  Calls Try.prog 193 #[.agg #[.int .i64 a0_0, .int .i64 a0_1, .slice A0_2 l0_2.length c0_2]] w fun e w' => e = .returned (.bool r) ∧ Below w.heap.size w w' := by
 have hu35 := Try.underlying35
 have HR0_2 := Aside0.mk hr0_2
 have HC0_2 := Aside0.mk hc0_2
 clear hr0_2 hc0_2
 have HB := Aside0.mk (Below.refl w.heap.size w)
 have H : (spec_l02Reach.l0 k 0 a0_0 a0_1 l0_2) = some r := h
 clear h
 have H' := Aside0.mk H
 clear H
 go_enter Try.func193, Try.ntmps193
 go_wp2_with (first | ((with_reducible refine gate_dst (N := 1) rfl ?_); (try (refine gate_guard (by rfl) ?_; dsimp only)); refine Xbox 1 #[.int .i64 a0_0, .int .i64 a0_1, .slice A0_2 l0_2.length c0_2] 35 ?_; intro gb137 hg w2 hbox hb; have BK137 := Aside0.mk (hbox); have GE137 := Xge hg Xi; replace HB := Aside0.mk (below_step Xi hb); clear hb hbox hg))
 go_loopg [3] k (fun kq v3 w' => ∃ (x3_1 : Int), v3 = .int .i64 x3_1 ∧ Aside0 (spec_l02Reach.l0 kq x3_1 a0_0 a0_1 l0_2 = some r) ∧ Aside0 (kq ≤ k) ∧ Aside0 (w'.heap[gb137]? = some (.cells #[.int .i64 a0_0, .int .i64 a0_1, (.slice A0_2 l0_2.length c0_2)] 35 (0, 0))) ∧ Aside0 (Below w.heap.size w w'))
 case atStart => exact ⟨(0), Xr, H', Xkr, BK137, ⟨Xi⟩⟩
 case round =>
  clear H'
  obtain ⟨x3_1, rfl, HA, HK1, BK137, HB⟩ := hrel
  cases gk with
  | zero => cases HA.out
  | succ k1 =>
   have H := HA.out
   clear HA
   simp only [spec_l02Reach.l0] at H
   obtain ⟨c3b0, H⟩ | ⟨c3b0, H⟩ := Xit H
   ·obtain ⟨c4b0, H⟩ := Xid H
    have H' := Aside0.mk H
    clear H
    obtain ⟨hcz5_0, hcz5_1, hcz5_2⟩ := Xc3 BK137
    obtain ⟨ad138, A138_4, c138_4, e138, p138, q138, hx138_0, hx138_1, hx138_2, hx138_3, hx138_4, HC138_4, HR138_4⟩ := at_B64 HR0_2 x3_1 Xa Xa HB
    cases e138
    go_wp2
    go_loopg [4, 5] k1 (fun kq v4 v5 w' => ∃ (x4_2 : Int) (x5_2 : Int), v4 = .int .i64 x4_2 ∧ v5 = .int .i64 x5_2 ∧ Aside0 (spec_l02Reach.l1 kq x3_1 x4_2 x5_2 a0_0 a0_1 l0_2 = some r) ∧ Aside0 (kq ≤ k1) ∧ Aside0 (w'.heap[gb137]? = some (.cells #[.int .i64 a0_0, .int .i64 a0_1, (.slice (some ad138) l0_2.length c0_2)] 35 (0, 0))) ∧ Aside0 (Below w.heap.size w w'))
    case atStart => exact ⟨((rd_T64 l0_2 x3_1).f0), (0), Xr, Xr, H', Xkr, BK137, ⟨Xi⟩⟩
    case round =>
     clear H'
     (try clear c3); (try clear c3b0); (try clear c4); (try clear c4b0); (try clear hcz5_0); (try clear hcz5_1); (try clear hcz5_2); (try clear hx138_0); (try clear hx138_1); (try clear hx138_2); (try clear hx138_3); (try clear hx138_4); (try clear p138); (try clear q138)
     obtain ⟨x4_2, x5_2, rfl, rfl, HA, HK2, BK137, HB⟩ := hrel
     cases gk with
     | zero => cases HA.out
     | succ k2 =>
      have H := HA.out
      clear HA
      simp only [spec_l02Reach.l1] at H
      obtain ⟨c6, H⟩ | ⟨c6, H⟩ := Xiu H
      ·have c6b0 : (x4_2 == a0_0) = true := beq_iff_eq.mpr c6
       have c6b1 : (x4_2 != a0_0) = false := bne_eq_false_iff_eq.mpr c6
       clear c6
       have H' := Aside0.mk H
       clear H
       obtain ⟨hcz7_0, hcz7_1, hcz7_2⟩ := Xc3 BK137
       go_wp2
       go_roundg k2
       case measure => have := HK1.out; have := HK2.out; omega
       case rel => exact ⟨(wrap64 (x3_1 + 1)), Xr, H', ⟨by have := HK1.out; have := HK2.out; omega⟩, BK137, ⟨Xi⟩⟩
      ·have c6b0 : (x4_2 == a0_0) = false := beq_eq_false_iff_ne.mpr c6
       have c6b1 : (x4_2 != a0_0) = true := bne_iff_ne.mpr c6
       obtain ⟨c8, H⟩ | ⟨c8, H⟩ := Xiu H
       ·have c8b0 : decide (0 < x4_2) = true := decide_eq_true c8
        clear c8
        obtain ⟨c9b0, H⟩ | ⟨c9b0, H⟩ := Xit H
        ·obtain ⟨t139, A10, H⟩ := Xbi H
         (try dsimp only at H)
         have H' := Aside0.mk H
         clear H
         obtain ⟨hcz11_0, hcz11_1, hcz11_2⟩ := Xc3 BK137
         go_wp2_with (first | ((with_reducible refine gate_callee (f := 191) rfl ?_); refine Xgo 36 Try.func191 #[.agg #[.int .i64 a0_0, .int .i64 a0_1, .slice (some ad138) l0_2.length c0_2], .int .i64 x4_2] ?_; (with_reducible refine (spec_l02Parent.calls k2 a0_0 a0_1 _ _ l0_2 x4_2 t139 _ ?side1 ?side2 A10.out).mono ?_); (case side1 => exact Xc HR0_2); (case side2 => exact HC0_2.out); rintro e w12 ⟨rfl, hb⟩; refine ⟨_, rfl, ?_⟩; replace BK137 := Xbb BK137 hb; replace HB := Aside0.mk (below_step Xi hb); clear hb))
         go_roundg k2
         case measure => have := HK1.out; have := HK2.out; omega
         case rel => exact ⟨(t139), (wrap64 (x5_2 + 1)), Xr, Xr, H', ⟨by have := HK1.out; have := HK2.out; omega⟩, BK137, ⟨Xi⟩⟩
        ·obtain rfl := Option.some.inj H
         obtain ⟨hcz13_0, hcz13_1, hcz13_2⟩ := Xc3 BK137
         go_wp2
         go_ret
         exact ⟨Xe, Xi⟩
       ·have c8b0 : decide (0 < x4_2) = false := decide_eq_false c8
        clear c8
        obtain rfl := Option.some.inj H
        obtain ⟨hcz14_0, hcz14_1, hcz14_2⟩ := Xc3 BK137
        go_wp2
        go_ret
        exact ⟨Xe, Xi⟩
   ·obtain rfl := Option.some.inj H
    obtain ⟨hcz15_0, hcz15_1, hcz15_2⟩ := Xc3 BK137
    go_wp2
    go_ret
    exact ⟨Xe, Xi⟩

/-! ### spec_l02Deep: function 194 -/
mutual
def spec_l02Deep.l0 : Nat → Int → Int → List Int → Int → Int → Int → List (S64) → Option (Int)
 | 0, _, _, _, _, _, _, _ => none
 | k + 1, x2, x7, x8, x9, x141000, x141001, x141002 => if x9 < (x8.length : Int) then (if 0 ≤ x9 then ((spec_l02Deep.f k x141000 x141001 x141002 (rd x8 x9) (wrap64 (x2 - 1))).bind fun t144 => (spec_l02Deep.l0 k x2 (mx x7 t144) x8 (wrap64 (x9 + 1)) x141000 x141001 x141002)) else (none)) else (some (wrap64 (x7 + 1)))
def spec_l02Deep.f : Nat → Int → Int → List (S64) → Int → Int → Option (Int)
 | 0, _, _, _, _, _ => none
 | k + 1, a0_0, a0_1, l0_2, a1, a2 => if a2 = 0 then (some 1) else ((spec_l02At.f k a0_0 a0_1 l0_2 a1).bind fun t141 => (if 0 ≤ t141 then (if t141 < (l0_2.length : Int) then (spec_l02Deep.l0 k a2 0 ((rd_T64 l0_2 t141).f4) 0 a0_0 a0_1 l0_2) else (none)) else (none)))
end
def spec_l02Deep.T4 : Bool × List (List Nat × List Nat) := (true, [([], []), ([0], [0]), ([], []), ([], []), ([2, 3], [2, 3]), ([1, 4], [1, 4]), ([5], [5]), ([6], [6]), ([7, 4, 0, 1, 2, 3, 4, 5, 6, 7], [7])])
def spec_l02Deep.B4 : List Nat := [0, 1, 0, 0, 12, 31, 63, 127, 255]
theorem spec_l02Deep.tab4 : rtab .any (opsOf Try.f194 4) = spec_l02Deep.T4 := by kernel_rfl
theorem spec_l02Deep.bits4 : waitsOk spec_l02Deep.T4.2 spec_l02Deep.B4 = true := by kernel_rfl
def spec_l02Deep.T8 : Bool × List (List Nat × List Nat) := (true, [([], []), ([], []), ([], []), ([], []), ([2, 3], [2, 3]), ([4], [4]), ([], []), ([6], [6]), ([1, 5, 7], [1, 5, 7]), ([0, 8], [0, 8]), ([9, 8, 0, 1, 2, 3, 4, 5, 6, 7, 8, 9], [0, 9])])
def spec_l02Deep.B8 : List Nat := [0, 0, 0, 0, 12, 28, 0, 64, 254, 511, 1023]
theorem spec_l02Deep.tab8 : rtab .any (opsOf Try.f194 8) = spec_l02Deep.T8 := by kernel_rfl
theorem spec_l02Deep.bits8 : waitsOk spec_l02Deep.T8.2 spec_l02Deep.B8 = true := by kernel_rfl
set_option maxHeartbeats 8000000 in
set_option maxRecDepth 100000 in
theorem spec_l02Deep.calls (k : Nat) : ∀ (a0_0 : Int) (a0_1 : Int) (A0_2 : Option Addr) (c0_2 : Nat) (l0_2 : List (S64)) (a1 : Int) (a2 : Int) (r : Int) (w : World) (hr0_2 : Kd.C k64 w A0_2 l0_2.length l0_2) (hc0_2 : l0_2.length ≤ c0_2) (h : spec_l02Deep.f k a0_0 a0_1 l0_2 a1 a2 = some r),
  Calls Try.prog 194 #[.agg #[.int .i64 a0_0, .int .i64 a0_1, .slice A0_2 l0_2.length c0_2], .int .i64 a1, .int .i64 a2] w fun e w' => e = .returned (.int .i64 r) ∧ Below w.heap.size w w' := by
 induction k using Nat.strongRecOn with
 | _ k ih =>
 intro a0_0 a0_1 A0_2 c0_2 l0_2 a1 a2 r w hr0_2 hc0_2 h
 cases k with
 | zero => exact absurd h (by simp [spec_l02Deep.f])
 | succ k =>
 simp only [spec_l02Deep.f] at h
 have hu35 := Try.underlying35
 have HR0_2 := Aside0.mk hr0_2
 have HC0_2 := Aside0.mk hc0_2
 clear hr0_2 hc0_2
 have HB := Aside0.mk (Below.refl w.heap.size w)
 have H : (if a2 = 0 then (some 1) else ((spec_l02At.f k a0_0 a0_1 l0_2 a1).bind fun t141 => (if 0 ≤ t141 then (if t141 < (l0_2.length : Int) then (spec_l02Deep.l0 k a2 0 ((rd_T64 l0_2 t141).f4) 0 a0_0 a0_1 l0_2) else (none)) else (none)))) = some r := h
 clear h
 have HC4 := Aside0.mk H
 clear H
 go_enter Try.func194, Try.ntmps194
 go_upto_if 11 with (first | ((with_reducible refine gate_dst (N := 3) rfl ?_); refine Xbox 3 #[.int .i64 a0_0, .int .i64 a0_1, .slice A0_2 l0_2.length c0_2] 35 ?_; intro gb140 hg w5 hbox hb; have BK140 := Aside0.mk (hbox); have GE140 := Xge hg Xi; replace HB := Aside0.mk (below_step Xi hb); clear hb hbox hg))
 have H := HC4.out
 clear HC4
 obtain ⟨c6, H⟩ | ⟨c6, H⟩ := Xiu H
 ·have c6b0 : (a2 == 0) = true := beq_iff_eq.mpr c6
  have c6b1 : (a2 != 0) = false := bne_eq_false_iff_eq.mpr c6
  clear c6
  (first | rw [c6b0] | (simp only [i64_w, i32_w]; rw [c6b0]) | skip)
  obtain rfl := Option.some.inj H
  go_wp2
  go_ret
  exact ⟨Xe, Xi⟩
 ·have c6b0 : (a2 == 0) = false := beq_eq_false_iff_ne.mpr c6
  have c6b1 : (a2 != 0) = true := bne_iff_ne.mpr c6
  (first | rw [c6b0] | (simp only [i64_w, i32_w]; rw [c6b0]) | skip)
  obtain ⟨t141, A7, H⟩ := Xbi H
  (try dsimp only at H)
  obtain ⟨c8, H⟩ | ⟨c8, H⟩ := Xiu H
  ·have c8b0 : decide (0 ≤ t141) = true := decide_eq_true c8
   clear c8
   obtain ⟨c9b0, H⟩ := Xid H
   have H' := Aside0.mk H
   clear H
   try go_wp2_with (fail)
   replace BK140 := Aside0.mk (blk_drew BK140.out)
   replace HB := Aside0.mk (below_drew1 HB.out)
   have p142 : 0 ≤ (t141 : Int) := of_decide_eq_true Xa
   have q142 : t141 < (l0_2.length : Int) := of_decide_eq_true Xa
   obtain ⟨ad142, A142_4, c142_4, e142, hx142_0, hx142_1, hx142_2, hx142_3, hx142_4, hl142_4, hi142_4⟩ := at_T64 HR0_2.out t141 p142 q142
   have hw142_4 := hx142_4
   have hw142_3 := hx142_3
   have hw142_2 := hx142_2
   have hw142_1 := hx142_1
   have hw142_0 := hx142_0
   cases e142
   replace hx142_0 := Xm HB hx142_0
   replace hx142_1 := Xm HB hx142_1
   replace hx142_2 := Xm HB hx142_2
   replace hx142_3 := Xm HB hx142_3
   replace hx142_4 := Xm HB hx142_4
   have HR142_4 := Aside0.mk hi142_4
   have HC142_4 := Aside0.mk hl142_4
   clear hi142_4 hl142_4
   replace p142 := eq_true p142
   replace q142 := eq_true q142
   refine start_ (n := 9) (S := fun w' => w'.cell? ⟨gb140, 0, none⟩ = some (.int .i64 a0_0) ∧ w'.cell? ⟨gb140, 1, none⟩ = some (.int .i64 a0_1) ∧ w'.cell? ⟨gb140, 2, none⟩ = some (.slice (some ad142) l0_2.length c0_2) ∧ w'.cell? (ad142.add ((t141).toNat * 5)) = some (.int .i64 ((rd_T64 l0_2 t141).f0)) ∧ w'.cell? ⟨(ad142.add ((t141).toNat * 5)).block, (ad142.add ((t141).toNat * 5)).off + 1, none⟩ = some (.int .i64 ((rd_T64 l0_2 t141).f1)) ∧ w'.cell? ⟨(ad142.add ((t141).toNat * 5)).block, (ad142.add ((t141).toNat * 5)).off + 2, none⟩ = some (.int .i64 ((rd_T64 l0_2 t141).f2)) ∧ w'.cell? ⟨(ad142.add ((t141).toNat * 5)).block, (ad142.add ((t141).toNat * 5)).off + 3, none⟩ = some (.string ((rd_T64 l0_2 t141).f3)) ∧ w'.cell? ⟨(ad142.add ((t141).toNat * 5)).block, (ad142.add ((t141).toNat * 5)).off + 4, none⟩ = some (.slice A142_4 ((rd_T64 l0_2 t141).f4).length c142_4)) (ds := []) #[false, false, false, false, false, false, false, false, false] (by kernel_rfl) rfl rfl ⟨(blk_cell BK140.out 0).trans rfl, (blk_cell BK140.out 1).trans rfl, (blk_cell BK140.out 2).trans rfl, Xn hw142_0, Xn hw142_1, Xn hw142_2, Xn hw142_3, Xn hw142_4⟩ (fun hHeld => ?_); refine with_tabW spec_l02Deep.tab4 spec_l02Deep.bits4 (fun HT_ HW_ => ?_)
   generalize w5.drew = w10 at BK140 HB HR142_4 hx142_0 hx142_1 hx142_2 hx142_3 hx142_4 hHeld ⊢
   refine Xpu 0 12 (XW.bs 9 1) HT_.out ?_
   refine Xpu 3 15 (XW.bs 9 9) HT_.out ?_
   refine Xta 1 13 (XW.bs 9 11) HT_.out HW_.out hHeld ?_
   refine Xta 2 14 (XW.bs 9 15) HT_.out HW_.out hHeld ?_
   refine one_ (i := 4) (N := some 16) (XW.bs 9 31) rfl rfl (one_of HT_.out (by kernel_rfl)) (by decide) (fun K hK => ?_)
   refine goes_ Try.func113 (by kernel_rfl) rfl #[.agg #[.int .i64 a0_0, .int .i64 a0_1, .slice (some ad142) l0_2.length c0_2], .int .i64 a1] (by rfl) rfl rfl (by (try simp only [List.map_toArray, List.map_cons, List.map_nil]); first | done | rfl | (simp only [List.length_drop, List.length_take]; rfl)) ?_
   with_reducible refine (spec_l02At.calls k a0_0 a0_1 _ _ l0_2 a1 t141 _ ?side1 ?side2 A7.out).mono ?_
   (case side1 => exact Xc HR0_2)
   (case side2 => exact HC0_2.out)
   rintro e w11 ⟨rfl, hb⟩
   refine ⟨_, rfl, ?_⟩
   replace BK140 := Xbb BK140 hb
   replace HB := Aside0.mk (below_step Xi hb)
   (try clear hb)
   (try clear hb2)
   (try clear hk)
   (try clear hi)
   refine hK.out _ _ ⟨(blk_cell BK140.out 0).trans rfl, (blk_cell BK140.out 1).trans rfl, (blk_cell BK140.out 2).trans rfl, Xn hw142_0, Xn hw142_1, Xn hw142_2, Xn hw142_3, Xn hw142_4⟩ (fun hHeld => ?_)
   clear hK K
   refine Xno ?_
   refine Xpu 5 17 (XW.bs 9 63) HT_.out ?_
   refine Xpu 6 18 (XW.bs 9 127) HT_.out ?_
   refine Xta 7 19 (XW.bs 9 255) HT_.out HW_.out hHeld ?_
   refine Xpu 8 8 (XW.bs 9 511) HT_.out ?_
   refine done_ (done_of HT_.out (by kernel_rfl)) ?_
   try go_wp2_with (fail)
   go_loopg [7, 9] k (fun kq v7 v9 w' => ∃ (x7_1 : Int) (x9_1 : Int), v7 = .int .i64 x7_1 ∧ v9 = .int .i64 x9_1 ∧ Aside0 (spec_l02Deep.l0 kq a2 x7_1 ((rd_T64 l0_2 t141).f4) x9_1 a0_0 a0_1 l0_2 = some r) ∧ Aside0 (kq ≤ k) ∧ Aside0 (w'.heap[gb140]? = some (.cells #[.int .i64 a0_0, .int .i64 a0_1, (.slice (some ad142) l0_2.length c0_2)] 35 (0, 0))) ∧ Aside0 (Below w.heap.size w w'))
   case atStart => exact ⟨(0), (0), Xr, Xr, H', Xkr, BK140, ⟨Xi⟩⟩
   case round =>
    clear H'
    (try clear c6); (try clear c6b0); (try clear c6b1); (try clear c8); (try clear c8b0); (try clear c9); (try clear c9b0); (try clear hx142_0); (try clear hx142_1); (try clear hx142_2); (try clear hx142_3); (try clear hx142_4); (try clear p142); (try clear q142)
    obtain ⟨x7_1, x9_1, rfl, rfl, HA, HK1, BK140, HB⟩ := hrel
    cases gk with
    | zero => cases HA.out
    | succ k1 =>
     have H := HA.out
     clear HA
     simp only [spec_l02Deep.l0] at H
     obtain ⟨c12b0, H⟩ | ⟨c12b0, H⟩ := Xit H
     ·obtain ⟨c13b0, H⟩ := Xid H
      obtain ⟨t144, A14, H⟩ := Xbi H
      (try dsimp only at H)
      obtain ⟨ji15, hji15⟩ : ∃ j_ : Int, (mx x7_1 t144) = j_ := ⟨_, rfl⟩
      replace H : (spec_l02Deep.l0 k1 a2 ji15 ((rd_T64 l0_2 t141).f4) (wrap64 (x9_1 + 1)) a0_0 a0_1 l0_2) = some r := by first | (rw [hji15] at H; exact H) | (simp only [hji15] at H ⊢; exact H)
      (try rw [hji15] at A14)
      have hji15_ : (if x7_1 < t144 then t144 else x7_1) = ji15 := hji15
      have H' := Aside0.mk H
      clear H
      try go_wp2_with (fail)
      replace BK140 := Aside0.mk (blk_drew BK140.out)
      replace HB := Aside0.mk (below_drew1 HB.out)
      have p143 : 0 ≤ (x9_1 : Int) := of_decide_eq_true Xa
      have q143 : x9_1 < (((rd_T64 l0_2 t141).f4).length : Int) := of_decide_eq_true Xa
      obtain ⟨ad143, e143, hx143_0⟩ := Kd.at_int HR142_4.out x9_1 p143 q143
      have hw143_0 := hx143_0
      cases e143
      replace hx143_0 := Xm HB hx143_0
      replace p143 := eq_true p143
      replace q143 := eq_true q143
      refine start_ (n := 11) (S := fun w' => w'.cell? ⟨gb140, 0, none⟩ = some (.int .i64 a0_0) ∧ w'.cell? ⟨gb140, 1, none⟩ = some (.int .i64 a0_1) ∧ w'.cell? ⟨gb140, 2, none⟩ = some (.slice (some ad142) l0_2.length c0_2) ∧ w'.cell? (ad143.add (x9_1).toNat) = some (.int .i64 (rd ((rd_T64 l0_2 t141).f4) x9_1))) (ds := []) #[false, false, false, false, false, false, false, false, false, false, false] (by kernel_rfl) rfl rfl ⟨(blk_cell BK140.out 0).trans rfl, (blk_cell BK140.out 1).trans rfl, (blk_cell BK140.out 2).trans rfl, Xn hw143_0⟩ (fun hHeld => ?_); refine with_tabW spec_l02Deep.tab8 spec_l02Deep.bits8 (fun HT_ HW_ => ?_)
      generalize wr.drew = w16 at BK140 HB hx143_0 hHeld ⊢
      refine Xpu 0 26 (XW.bs 11 1) HT_.out ?_
      refine Xpu 2 28 (XW.bs 11 5) HT_.out ?_
      refine Xpu 3 29 (XW.bs 11 13) HT_.out ?_
      refine Xpu 4 30 (XW.bs 11 29) HT_.out ?_
      refine Xpu 6 32 (XW.bs 11 93) HT_.out ?_
      refine Xpu 7 33 (XW.bs 11 221) HT_.out ?_
      refine Xta 1 27 (XW.bs 11 223) HT_.out HW_.out hHeld ?_
      refine Xta 5 31 (XW.bs 11 255) HT_.out HW_.out hHeld ?_
      refine one_ (i := 8) (N := some 34) (XW.bs 11 511) rfl rfl (one_of HT_.out (by kernel_rfl)) (by decide) (fun K hK => ?_)
      refine goes_ Try.func194 (by kernel_rfl) rfl #[.agg #[.int .i64 a0_0, .int .i64 a0_1, .slice (some ad142) l0_2.length c0_2], .int .i64 (rd ((rd_T64 l0_2 t141).f4) x9_1), .int .i64 (wrap64 (a2 - 1))] (by rfl) rfl rfl (by (try simp only [List.map_toArray, List.map_cons, List.map_nil]); first | done | rfl | (simp only [List.length_drop, List.length_take]; rfl)) ?_
      with_reducible refine (ih k1 (by have := HK1.out; omega) a0_0 a0_1 _ _ l0_2 (rd ((rd_T64 l0_2 t141).f4) x9_1) (wrap64 (a2 - 1)) t144 _ ?side1 ?side2 A14.out).mono ?_
      (case side1 => exact Xc HR0_2)
      (case side2 => exact HC0_2.out)
      rintro e w17 ⟨rfl, hb⟩
      refine ⟨_, rfl, ?_⟩
      replace BK140 := Xbb BK140 hb
      replace HB := Aside0.mk (below_step Xi hb)
      (try clear hb)
      (try clear hb2)
      (try clear hk)
      (try clear hi)
      refine hK.out _ _ ⟨(blk_cell BK140.out 0).trans rfl, (blk_cell BK140.out 1).trans rfl, (blk_cell BK140.out 2).trans rfl, Xn hw143_0⟩ (fun hHeld => ?_)
      clear hK K
      refine Xno ?_
      refine Xpu 9 35 (XW.bs 11 1023) HT_.out ?_
      refine Xpu 10 7 (XW.bs 11 2047) HT_.out ?_
      refine done_ (done_of HT_.out (by kernel_rfl)) ?_
      try go_wp2_with (fail)
      go_roundg k1
      case measure => have := HK1.out; omega
      case rel => exact ⟨(ji15), (wrap64 (x9_1 + 1)), (by first | rfl | (simp; done) | (simp only [← hji15] <;> (first | rfl | simp)) | (simp [*]; done)), Xr, H', Xk1, BK140, ⟨Xi⟩⟩
     ·obtain rfl := Option.some.inj H
      go_wp2
      go_ret
      exact ⟨Xe, Xi⟩
  ·exact absurd H (by simp)

end Go.Proofs.Ytocelbmpnjnnbaa.XA
