/- Contracts of the program's functions: each Go function that is named below comes to what its Lean function says. Written by xprint.py (a program of this session's, over the kit's print). Conditions: each contract's own premises. -/
import Derived.Test.YtpdhccdmbdbdpaaYCheckNode0
import Derived.Test.YtpdhccdmbdbdpaaYCheckNode3
import Derived.Test.YtpdhccdmbdbdpaaYCheckNode7
namespace Go.Proofs.Ytpdhccdmbdbdpaa.XA
open Go.RowKit Go.Proofs.YtpdhccdmbdbdpaaW.PrintWords Go.Proofs.YtpdhccdmbdbdpaaW.PrintLast Go.Proofs.YtpdhccdmbdbdpaaW.PrintMore XW
attribute [local go_sem] max2_int min2_int max_two min_two max_three min_three max_four min_four   -- for this text's walks alone
set_option linter.unusedVariables false
set_option linter.unusedSimpArgs false

/-! ### spec_l03OK: function 77 -/
mutual
def spec_l03OK.l0 : Nat → List (S95) → Int → Option (Bool)
 | 0, _, _ => none
 | k + 1, x0, x3 => if x3 < (x0.length : Int) then (if 0 ≤ x3 then ((spec_l03Rule.f k ((rd_T95 x0 x3).f0) ((rd_T95 x0 x3).f1) ((rd_T95 x0 x3).f2) (x0.length : Int)).bind fun t218 => (if t218 = true then (spec_l03OK.l1 k x0 x3 0) else (some false))) else (none)) else (some true)
def spec_l03OK.l1 : Nat → List (S95) → Int → Int → Option (Bool)
 | 0, _, _, _ => none
 | k + 1, x0, x3, x4 => if x4 < x3 then (if 0 ≤ x4 then (if x4 < (x0.length : Int) then (if 0 ≤ x3 then (if x3 < (x0.length : Int) then (if ((rd_T95 x0 x4).f0).toList = ((rd_T95 x0 x3).f0).toList then (some false) else (spec_l03OK.l1 k x0 x3 (wrap64 (x4 + 1)))) else (none)) else (none)) else (none)) else (none)) else (spec_l03OK.l0 k x0 (wrap64 (x3 + 1)))
end
def spec_l03OK.f (k : Nat) (l0 : List (S95)) : Option (Bool) := (spec_l01In.f (l0.length : Int) 1 8).bind fun t216 => (if t216 = true then (spec_l03OK.l0 k l0 0) else (some false))
set_option maxHeartbeats 8000000 in
set_option maxRecDepth 100000 in
theorem spec_l03OK.calls (k : Nat) (A0 : Option Addr) (c0 : Nat) (l0 : List (S95)) (r : Bool) (w : World) (hr0 : Kd.C k95 w A0 l0.length l0) (hc0 : l0.length ≤ c0) (h : spec_l03OK.f k l0 = some r) :
  Calls Try.prog 77 #[.slice A0 l0.length c0] w fun e w' => e = .returned (.bool r) ∧ Below w.heap.size w w' := by
 have hu95 := Try.underlying95
 have HR0 := Aside0.mk hr0
 have HC0 := Aside0.mk hc0
 clear hr0 hc0
 have HB := Aside0.mk (Below.refl w.heap.size w)
 have H : ((spec_l01In.f (l0.length : Int) 1 8).bind fun t216 => (if t216 = true then (spec_l03OK.l0 k l0 0) else (some false))) = some r := h
 clear h
 obtain ⟨t216, A2, H⟩ := Xbi H
 (try dsimp only at H)
 have HC3 := Aside0.mk H
 clear H
 go_enter Try.func77, Try.ntmps77
 go_upto_if 8 with (first | (go_at_call 84; (with_reducible refine (spec_l01In.calls (l0.length : Int) 1 8 t216 _ A2.out).mono ?_); rintro e w' ⟨rfl, ⟨nd, rfl⟩⟩; (try exact Xdd)))
 repeat (go_quiet (first | (go_at_call 84; (with_reducible refine (spec_l01In.calls (l0.length : Int) 1 8 t216 _ A2.out).mono ?_); rintro e w' ⟨rfl, ⟨nd, rfl⟩⟩; (try exact Xdd))); go_upto_if 8 with (first | (go_at_call 84; (with_reducible refine (spec_l01In.calls (l0.length : Int) 1 8 t216 _ A2.out).mono ?_); rintro e w' ⟨rfl, ⟨nd, rfl⟩⟩; (try exact Xdd))))
 have H := HC3.out
 clear HC3
 by_cases c4 : t216 = true
 ·subst c4
  (first | rw [if_pos rfl] at H | skip)
  have H' := Aside0.mk H
  clear H
  go_wp2
  repeat (go_quiet (fail); try go_wp2)
  go_loopg [3] k (fun kq v3 w' => ∃ (x3_1 : Int), v3 = .int .i64 x3_1 ∧ Aside0 (spec_l03OK.l0 kq l0 x3_1 = some r) ∧ Aside0 (kq ≤ k) ∧ Aside0 (Below w.heap.size w w'))
  case atStart => exact ⟨(0), Xr, H', Xkr, ⟨Xi⟩⟩
  case round =>
   clear H'
   (try clear c4)
   obtain ⟨x3_1, rfl, HA, HK1, HB⟩ := hrel
   cases gk with
   | zero => cases HA.out
   | succ k1 =>
    have H := HA.out
    clear HA
    simp only [spec_l03OK.l0] at H
    obtain ⟨c5b0, H⟩ | ⟨c5b0, H⟩ := Xit H
    ·(first | rw [c5b0] | (simp only [i64_w, i32_w]; rw [c5b0]) | skip)
     obtain ⟨c6b0, H⟩ := Xid H
     obtain ⟨t218, A7, H⟩ := Xbi H
     (try dsimp only at H)
     have HC8 := Aside0.mk H
     clear H
     obtain ⟨ad217, A217_2, c217_2, e217, p217, q217, hx217_0, hx217_1, hx217_2, HC217_2, HR217_2⟩ := at_B95 HR0 x3_1 Xa Xa HB
     cases e217
     go_upto_if 22 with (first | (go_at_call 113; (with_reducible refine (spec_l03Rule.calls k1 ((rd_T95 l0 x3_1).f0) ((rd_T95 l0 x3_1).f1) _ _ ((rd_T95 l0 x3_1).f2) (l0.length : Int) t218 _ ?side1 ?side2 A7.out).mono ?_); (case side1 => exact Xc HR217_2); (case side2 => exact HC217_2.out); rintro e w9 ⟨rfl, hb⟩; replace HB := Aside0.mk (below_step Xi hb); clear hb))
     repeat (go_quiet (first | (go_at_call 113; (with_reducible refine (spec_l03Rule.calls k1 ((rd_T95 l0 x3_1).f0) ((rd_T95 l0 x3_1).f1) _ _ ((rd_T95 l0 x3_1).f2) (l0.length : Int) t218 _ ?side1 ?side2 A7.out).mono ?_); (case side1 => exact Xc HR217_2); (case side2 => exact HC217_2.out); rintro e w9 ⟨rfl, hb⟩; replace HB := Aside0.mk (below_step Xi hb); clear hb)); go_upto_if 22 with (first | (go_at_call 113; (with_reducible refine (spec_l03Rule.calls k1 ((rd_T95 l0 x3_1).f0) ((rd_T95 l0 x3_1).f1) _ _ ((rd_T95 l0 x3_1).f2) (l0.length : Int) t218 _ ?side1 ?side2 A7.out).mono ?_); (case side1 => exact Xc HR217_2); (case side2 => exact HC217_2.out); rintro e w9 ⟨rfl, hb⟩; replace HB := Aside0.mk (below_step Xi hb); clear hb)))
     have H := HC8.out
     clear HC8
     by_cases c10 : t218 = true
     ·subst c10
      (first | rw [if_pos rfl] at H | skip)
      have H' := Aside0.mk H
      clear H
      go_wp2
      repeat (go_quiet (fail); try go_wp2)
      go_loopg [4] k1 (fun kq v4 w' => ∃ (x4_2 : Int), v4 = .int .i64 x4_2 ∧ Aside0 (spec_l03OK.l1 kq l0 x3_1 x4_2 = some r) ∧ Aside0 (kq ≤ k1) ∧ Aside0 (Below w.heap.size w w'))
      case atStart => exact ⟨(0), Xr, H', Xkr, ⟨Xi⟩⟩
      case round =>
       clear H'
       (try clear c4); (try clear c5); (try clear c5b0); (try clear c6); (try clear c6b0); (try clear c10); (try clear hx217_0); (try clear hx217_1); (try clear hx217_2); (try clear p217); (try clear q217)
       obtain ⟨x4_2, rfl, HA, HK2, HB⟩ := hrel
       cases gk with
       | zero => cases HA.out
       | succ k2 =>
        have H := HA.out
        clear HA
        simp only [spec_l03OK.l1] at H
        obtain ⟨c11b0, H⟩ | ⟨c11b0, H⟩ := Xit H
        ·(first | rw [c11b0] | (simp only [i64_w, i32_w]; rw [c11b0]) | skip)
         obtain ⟨c12b0, H⟩ := Xid H
         obtain ⟨c13b0, H⟩ := Xid H
         obtain ⟨c14b0, H⟩ := Xid H
         obtain ⟨c15b0, H⟩ := Xid H
         obtain ⟨c16, H⟩ | ⟨c16, H⟩ := Xiu H
         ·have c16b0 : (((rd_T95 l0 x4_2).f0).toList == ((rd_T95 l0 x3_1).f0).toList) = true := beq_iff_eq.mpr c16
          have c16b1 : (((rd_T95 l0 x4_2).f0).toList != ((rd_T95 l0 x3_1).f0).toList) = false := bne_eq_false_iff_eq.mpr c16
          clear c16
          obtain rfl := Option.some.inj H
          obtain ⟨ad219, A219_2, c219_2, e219, p219, q219, hx219_0, hx219_1, hx219_2, HC219_2, HR219_2⟩ := at_B95 HR0 x4_2 Xa Xa HB
          obtain rfl : ad217 = ad219 := (by injection e219)
          obtain ⟨ad220, A220_2, c220_2, e220, p220, q220, hx220_0, hx220_1, hx220_2, HC220_2, HR220_2⟩ := at_B95 HR0 x3_1 Xa Xa HB
          obtain rfl : ad217 = ad220 := (by injection e220)
          go_wp2
          repeat (go_quiet (fail); try go_wp2)
          go_ret
          exact ⟨Xe, Xi⟩
         ·have c16b0 : (((rd_T95 l0 x4_2).f0).toList == ((rd_T95 l0 x3_1).f0).toList) = false := beq_eq_false_iff_ne.mpr c16
          have c16b1 : (((rd_T95 l0 x4_2).f0).toList != ((rd_T95 l0 x3_1).f0).toList) = true := bne_iff_ne.mpr c16
          have H' := Aside0.mk H
          clear H
          obtain ⟨ad219, A219_2, c219_2, e219, p219, q219, hx219_0, hx219_1, hx219_2, HC219_2, HR219_2⟩ := at_B95 HR0 x4_2 Xa Xa HB
          obtain rfl : ad217 = ad219 := (by injection e219)
          obtain ⟨ad220, A220_2, c220_2, e220, p220, q220, hx220_0, hx220_1, hx220_2, HC220_2, HR220_2⟩ := at_B95 HR0 x3_1 Xa Xa HB
          obtain rfl : ad217 = ad220 := (by injection e220)
          go_wp2
          repeat (go_quiet (fail); try go_wp2)
          go_roundg k2
          case measure => have := HK1.out; have := HK2.out; omega
          case rel => exact ⟨(wrap64 (x4_2 + 1)), Xr, H', ⟨by have := HK1.out; have := HK2.out; omega⟩, ⟨Xi⟩⟩
        ·(first | rw [c11b0] | (simp only [i64_w, i32_w]; rw [c11b0]) | skip)
         have H' := Aside0.mk H
         clear H
         go_wp2
         repeat (go_quiet (fail); try go_wp2)
         go_roundg k2
         case measure => have := HK1.out; have := HK2.out; omega
         case rel => exact ⟨(wrap64 (x3_1 + 1)), Xr, H', ⟨by have := HK1.out; have := HK2.out; omega⟩, ⟨Xi⟩⟩
     ·replace c10 := Bool.eq_false_iff.mpr c10
      subst c10
      (first | rw [if_neg (show ¬ (false = true) by decide)] at H | skip)
      obtain rfl := Option.some.inj H
      go_wp2
      repeat (go_quiet (fail); try go_wp2)
      go_ret
      exact ⟨Xe, Xi⟩
    ·(first | rw [c5b0] | (simp only [i64_w, i32_w]; rw [c5b0]) | skip)
     obtain rfl := Option.some.inj H
     go_wp2
     repeat (go_quiet (fail); try go_wp2)
     go_ret
     exact ⟨Xe, Xi⟩
 ·replace c4 := Bool.eq_false_iff.mpr c4
  subst c4
  (first | rw [if_neg (show ¬ (false = true) by decide)] at H | skip)
  obtain rfl := Option.some.inj H
  go_wp2
  repeat (go_quiet (fail); try go_wp2)
  go_ret
  exact ⟨Xe, Xi⟩

/-! ### spec_l05Kids: function 91 -/
def spec_l05Kids.l0 : Nat → List Int → Int → Int → Int → List (S43) → Int → Int → Int → ByteArray → List Int → Option (List Int)
 | 0, _, _, _, _, _, _, _, _, _, _ => none
 | k + 1, x5, x6, x222000, x222001, x222002, x223000, x223001, x223002, x223003, x223004 => if x6 < (x223004.length : Int) then (if 0 ≤ x6 then ((spec_l02At.f k x222000 x222001 x222002 (rd x223004 x6)).bind fun t227 => (if 0 ≤ t227 then (if t227 < (x222002.length : Int) then (if x5.length < 17592186044416 then (spec_l05Kids.l0 k (x5 ++ [(rd_T43 x222002 t227).f1]) (wrap64 (x6 + 1)) x222000 x222001 x222002 x223000 x223001 x223002 x223003 x223004) else (none)) else (none)) else (none))) else (none)) else (some x5)
def spec_l05Kids.f (k : Nat) (a0_0 : Int) (a0_1 : Int) (l0_2 : List (S43)) (a1_0 : Int) (a1_1 : Int) (a1_2 : Int) (a1_3 : ByteArray) (l1_4 : List Int) : Option (List Int) := spec_l05Kids.l0 k (([] : List Int)) 0 a0_0 a0_1 l0_2 a1_0 a1_1 a1_2 a1_3 l1_4
def spec_l05Kids.T5 : Bool × List (List Nat × List Nat) := (true, [([], []), ([], []), ([1], [1]), ([], []), ([], []), ([4], [4]), ([], []), ([5, 6], [5, 6]), ([7], [7]), ([3, 8], [3, 8]), ([2, 9], [2, 9]), ([10], [10]), ([11], [11]), ([12], [12]), ([0, 13, 9], [0, 13]), ([14, 14, 0, 1, 2, 3, 4, 5, 6, 7, 8, 9, 10, 11, 12, 13, 14], [0, 14])])
def spec_l05Kids.B5 : List Nat := [0, 0, 2, 0, 0, 16, 0, 112, 240, 504, 1022, 2046, 4094, 8190, 16383, 32767]
theorem spec_l05Kids.tab5 : rtab .any (opsOf Try.f91 5) = spec_l05Kids.T5 := by kernel_rfl
theorem spec_l05Kids.bits5 : waitsOk spec_l05Kids.T5.2 spec_l05Kids.B5 = true := by kernel_rfl
set_option maxHeartbeats 8000000 in
set_option maxRecDepth 100000 in
theorem spec_l05Kids.calls (k : Nat) (a0_0 : Int) (a0_1 : Int) (A0_2 : Option Addr) (c0_2 : Nat) (l0_2 : List (S43)) (a1_0 : Int) (a1_1 : Int) (a1_2 : Int) (a1_3 : ByteArray) (A1_4 : Option Addr) (c1_4 : Nat) (l1_4 : List Int) (r : List Int) (w : World) (hr0_2 : Kd.C k43 w A0_2 l0_2.length l0_2) (hc0_2 : l0_2.length ≤ c0_2) (hr1_4 : Kd.C (Kd.int .i64) w A1_4 l1_4.length l1_4) (hc1_4 : l1_4.length ≤ c1_4) (h : spec_l05Kids.f k a0_0 a0_1 l0_2 a1_0 a1_1 a1_2 a1_3 l1_4 = some r) :
  Calls Try.prog 91 #[.agg #[.int .i64 a0_0, .int .i64 a0_1, .slice A0_2 l0_2.length c0_2], .agg #[.int .i64 a1_0, .int .i64 a1_1, .int .i64 a1_2, .string a1_3, .slice A1_4 l1_4.length c1_4]] w fun e w' => ∃ v0_ : Value, e = .returned (v0_) ∧ Kd.R (Kd.int .i64) 3 w' w.heap.size (fun _ => True) v0_ r ∧ Below w.heap.size w w' := by
 have hu29 := Try.underlying29
 have hu43 := Try.underlying43
 have HR0_2 := Aside0.mk hr0_2
 have HC0_2 := Aside0.mk hc0_2
 clear hr0_2 hc0_2
 have HR1_4 := Aside0.mk hr1_4
 have HC1_4 := Aside0.mk hc1_4
 clear hr1_4 hc1_4
 have HB := Aside0.mk (Below.refl w.heap.size w)
 have H : (spec_l05Kids.l0 k (([] : List Int)) 0 a0_0 a0_1 l0_2 a1_0 a1_1 a1_2 a1_3 l1_4) = some r := h
 clear h
 obtain ⟨y223, hy223⟩ : ∃ y_ : List Int, y_ = (([] : List Int)) := ⟨_, rfl⟩
 replace H : (spec_l05Kids.l0 k y223 0 a0_0 a0_1 l0_2 a1_0 a1_1 a1_2 a1_3 l1_4) = some r := by first | (rw [hy223]; with_reducible exact H) | (have H2_ := (Option.bind_some _ _).symm.trans H; rw [hy223]; with_reducible exact H2_) | (have H2_ := (Option.bind_some _ _).symm.trans H; with_reducible exact H2_) | with_reducible exact H | (rw [hy223]; exact H) | exact H
 have Ny223 := Aside0.mk hy223
 clear hy223
 have H' := Aside0.mk H
 clear H
 go_enter Try.func91, Try.ntmps91
 go_wp2_with (first | ((with_reducible refine gate_dst (N := 2) rfl ?_); refine Xbox 2 #[.int .i64 a0_0, .int .i64 a0_1, .slice A0_2 l0_2.length c0_2] 29 ?_; intro gb221 hg w3 hbox hb; have BK221 := Aside0.mk (hbox); have GE221 := Xge hg Xi; replace HB := Aside0.mk (below_step Xi hb); clear hb hbox hg) | ((with_reducible refine gate_dst (N := 3) rfl ?_); refine Xbox 3 #[.int .i64 a1_0, .int .i64 a1_1, .int .i64 a1_2, .string a1_3, .slice A1_4 l1_4.length c1_4] 43 ?_; intro gb222 hg w4 hbox hb; have BK222 := Aside0.mk (hbox); have GE222 := Xge hg Xi; replace HB := Aside0.mk (below_step Xi hb); have NB221_222 := Xnb hg BK221; have NB222_221 := Xns NB221_222; replace BK221 := Xbb BK221 hb; clear hb hbox hg) | ((with_reducible refine gate_dst (N := 7) rfl ?_); refine Kd.R_lit (Kd.int .i64) _ 3 ?hg (N := 7) ?hd (xs := ([] : List Int)) (inner := []) (ok := fun _ => True) (okp := fun _ => True) ?hr ?hp (fun _ hk => hk) trivial (Below.refl _ _) (Nat.le_refl _) (by simp) ?_; (case hd => rfl); (case hg => rfl); (case hr => first | (go_simp; done) | (go_simp; rfl)); (case hp => exact (Reps.none _ _)); intro v224 w5 ho6 hb hg_ hnew_; clear hg_ hnew_; (first | rw [← Ny223.out] at ho6 | (simp only [Int.reduceToNat] at ho6; rw [← Ny223.out] at ho6)); have HO225 := Aside0.mk (Kd.R_lower ho6 (below_size Xi)); replace BK221 := Xbb BK221 hb; replace BK222 := Xbb BK222 hb; replace HB := Aside0.mk (below_step Xi hb); clear hb ho6))
 go_loopg [5, 6] k (fun kq v5 v6 w' => ∃ (x5_1 : List Int) (x6_1 : Int), v6 = .int .i64 x6_1 ∧ Aside0 (spec_l05Kids.l0 kq x5_1 x6_1 a0_0 a0_1 l0_2 a1_0 a1_1 a1_2 a1_3 l1_4 = some r) ∧ Aside0 (kq ≤ k) ∧ Aside0 (Kd.R (Kd.int .i64) 3 w' w.heap.size (fun _ => True) v5 x5_1) ∧ Aside0 (w'.heap[gb221]? = some (.cells #[.int .i64 a0_0, .int .i64 a0_1, (.slice A0_2 l0_2.length c0_2)] 29 (0, 0))) ∧ Aside0 (w'.heap[gb222]? = some (.cells #[.int .i64 a1_0, .int .i64 a1_1, .int .i64 a1_2, .string a1_3, (.slice A1_4 l1_4.length c1_4)] 43 (0, 0))) ∧ Aside0 (Below w.heap.size w w'))
 case atStart => exact ⟨(y223), (0), Xr, H', Xkr, (Xp' HO225), (Xp BK221), (Xp BK222), ⟨Xi⟩⟩
 case round =>
  clear H'
  obtain ⟨x5_1, x6_1, rfl, HA, HK1, HO_5, BK221, BK222, HB⟩ := hrel
  cases gk with
  | zero => cases HA.out
  | succ k1 =>
   have H := HA.out
   clear HA
   simp only [spec_l05Kids.l0] at H
   obtain ⟨c7b0, H⟩ | ⟨c7b0, H⟩ := Xit H
   ·obtain ⟨c8b0, H⟩ := Xid H
    obtain ⟨t227, A9, H⟩ := Xbi H
    (try dsimp only at H)
    obtain ⟨c10b0, H⟩ := Xid H
    obtain ⟨c11b0, H⟩ := Xid H
    obtain ⟨c12, H⟩ := Xif H
    have LMc12 := Aside0.mk c12
    clear c12
    obtain ⟨y229, hy229⟩ : ∃ y_ : List Int, y_ = (x5_1 ++ [(rd_T43 l0_2 t227).f1]) := ⟨_, rfl⟩
    replace H : (spec_l05Kids.l0 k1 y229 (wrap64 (x6_1 + 1)) a0_0 a0_1 l0_2 a1_0 a1_1 a1_2 a1_3 l1_4) = some r := by first | (rw [hy229]; with_reducible exact H) | (have H2_ := (Option.bind_some _ _).symm.trans H; rw [hy229]; with_reducible exact H2_) | (have H2_ := (Option.bind_some _ _).symm.trans H; with_reducible exact H2_) | with_reducible exact H | (rw [hy229]; exact H) | exact H
    have Ny229 := Aside0.mk hy229
    clear hy229
    have H' := Aside0.mk H
    clear H
    have hnb13 := NB222_221.out
    have hnc13 := NB221_222.out
    obtain ⟨hcz14_0, hcz14_1, hcz14_2, hcz14_3, hcz14_4⟩ := Xc5 BK222
    try go_wp2_with (fail)
    replace HO_5 := Aside0.mk (Kd.R_drew HO_5.out)
    replace BK221 := Aside0.mk (blk_drew BK221.out)
    replace BK222 := Aside0.mk (blk_drew BK222.out)
    replace HB := Aside0.mk (below_drew1 HB.out)
    have p226 : 0 ≤ (x6_1 : Int) := of_decide_eq_true Xa
    have q226 : x6_1 < (l1_4.length : Int) := of_decide_eq_true Xa
    obtain ⟨ad226, e226, hx226_0⟩ := Kd.at_int HR1_4.out x6_1 p226 q226
    have hw226_0 := hx226_0
    cases e226
    replace hx226_0 := Xm HB hx226_0
    replace p226 := eq_true p226
    replace q226 := eq_true q226
    have p228 : 0 ≤ (t227 : Int) := of_decide_eq_true Xa
    have q228 : t227 < (l0_2.length : Int) := of_decide_eq_true Xa
    obtain ⟨ad228, A228_4, c228_4, e228, hx228_0, hx228_1, hx228_2, hx228_3, hx228_4, hl228_4, hi228_4⟩ := at_T43 HR0_2.out t227 p228 q228
    have hw228_4 := hx228_4
    have hw228_3 := hx228_3
    have hw228_2 := hx228_2
    have hw228_1 := hx228_1
    have hw228_0 := hx228_0
    cases e228
    replace hx228_0 := Xm HB hx228_0
    replace hx228_1 := Xm HB hx228_1
    replace hx228_2 := Xm HB hx228_2
    replace hx228_3 := Xm HB hx228_3
    replace hx228_4 := Xm HB hx228_4
    have HR228_4 := Aside0.mk hi228_4
    have HC228_4 := Aside0.mk hl228_4
    clear hi228_4 hl228_4
    replace p228 := eq_true p228
    replace q228 := eq_true q228
    refine start_ (n := 16) (S := fun w' => w'.cell? ⟨gb221, 0, none⟩ = some (.int .i64 a0_0) ∧ w'.cell? ⟨gb221, 1, none⟩ = some (.int .i64 a0_1) ∧ w'.cell? ⟨gb221, 2, none⟩ = some (.slice (some ad228) l0_2.length c0_2) ∧ w'.cell? ⟨gb222, 0, none⟩ = some (.int .i64 a1_0) ∧ w'.cell? ⟨gb222, 1, none⟩ = some (.int .i64 a1_1) ∧ w'.cell? ⟨gb222, 2, none⟩ = some (.int .i64 a1_2) ∧ w'.cell? ⟨gb222, 3, none⟩ = some (.string a1_3) ∧ w'.cell? ⟨gb222, 4, none⟩ = some (.slice (some ad226) l1_4.length c1_4) ∧ w'.cell? (ad226.add (x6_1).toNat) = some (.int .i64 (rd l1_4 x6_1)) ∧ w'.cell? (ad228.add ((t227).toNat * 5)) = some (.int .i64 ((rd_T43 l0_2 t227).f0)) ∧ w'.cell? ⟨(ad228.add ((t227).toNat * 5)).block, (ad228.add ((t227).toNat * 5)).off + 1, none⟩ = some (.int .i64 ((rd_T43 l0_2 t227).f1)) ∧ w'.cell? ⟨(ad228.add ((t227).toNat * 5)).block, (ad228.add ((t227).toNat * 5)).off + 2, none⟩ = some (.int .i64 ((rd_T43 l0_2 t227).f2)) ∧ w'.cell? ⟨(ad228.add ((t227).toNat * 5)).block, (ad228.add ((t227).toNat * 5)).off + 3, none⟩ = some (.string ((rd_T43 l0_2 t227).f3)) ∧ w'.cell? ⟨(ad228.add ((t227).toNat * 5)).block, (ad228.add ((t227).toNat * 5)).off + 4, none⟩ = some (.slice A228_4 ((rd_T43 l0_2 t227).f4).length c228_4)) (ds := []) #[false, false, false, false, false, false, false, false, false, false, false, false, false, false, false, false] (by kernel_rfl) rfl rfl ⟨(blk_cell BK221.out 0).trans rfl, (blk_cell BK221.out 1).trans rfl, (blk_cell BK221.out 2).trans rfl, (blk_cell BK222.out 0).trans rfl, (blk_cell BK222.out 1).trans rfl, (blk_cell BK222.out 2).trans rfl, (blk_cell BK222.out 3).trans rfl, (blk_cell BK222.out 4).trans rfl, Xn hw226_0, Xn hw228_0, Xn hw228_1, Xn hw228_2, Xn hw228_3, Xn hw228_4⟩ (fun hHeld => ?_); refine with_tabW spec_l05Kids.tab5 spec_l05Kids.bits5 (fun HT_ HW_ => ?_)
    generalize wr.drew = w15 at HO_5 BK221 BK222 HB HR228_4 hx226_0 hx228_0 hx228_1 hx228_2 hx228_3 hx228_4 hHeld ⊢
    refine Xpu 0 15 (XW.bs 16 1) HT_.out ?_
    refine Xpu 1 16 (XW.bs 16 3) HT_.out ?_
    refine Xpu 4 19 (XW.bs 16 19) HT_.out ?_
    refine Xpu 6 21 (XW.bs 16 83) HT_.out ?_
    refine Xta 2 17 (XW.bs 16 87) HT_.out HW_.out hHeld ?_
    refine Xta 3 18 (XW.bs 16 95) HT_.out HW_.out hHeld ?_
    refine Xta 5 20 (XW.bs 16 127) HT_.out HW_.out hHeld ?_
    refine Xpu 7 22 (XW.bs 16 255) HT_.out ?_
    refine Xta 8 23 (XW.bs 16 511) HT_.out HW_.out hHeld ?_
    refine one_ (i := 9) (N := some 24) (XW.bs 16 1023) rfl rfl (one_of HT_.out (by kernel_rfl)) (by decide) (fun K hK => ?_)
    refine goes_ Try.func74 (by kernel_rfl) rfl #[.agg #[.int .i64 a0_0, .int .i64 a0_1, .slice (some ad228) l0_2.length c0_2], .int .i64 (rd l1_4 x6_1)] (by rfl) rfl rfl (by (try simp only [List.map_toArray, List.map_cons, List.map_nil]); first | done | rfl | (simp only [List.length_drop, List.length_take]; rfl)) ?_
    with_reducible refine (spec_l02At.calls k1 a0_0 a0_1 _ _ l0_2 (rd l1_4 x6_1) t227 _ ?side1 ?side2 A9.out).mono ?_
    (case side1 => exact Xc HR0_2)
    (case side2 => exact HC0_2.out)
    rintro e w16 ⟨rfl, hb⟩
    refine ⟨_, rfl, ?_⟩
    replace HO_5 := Aside0.mk (Kd.R_below (Xq HO_5) hb)
    replace BK221 := Xbb BK221 hb
    replace BK222 := Xbb BK222 hb
    replace HB := Aside0.mk (below_step Xi hb)
    (try clear hb)
    (try clear hb2)
    (try clear hk)
    (try clear hi)
    refine hK.out _ _ ⟨(blk_cell BK221.out 0).trans rfl, (blk_cell BK221.out 1).trans rfl, (blk_cell BK221.out 2).trans rfl, (blk_cell BK222.out 0).trans rfl, (blk_cell BK222.out 1).trans rfl, (blk_cell BK222.out 2).trans rfl, (blk_cell BK222.out 3).trans rfl, (blk_cell BK222.out 4).trans rfl, Xn hw226_0, Xn hw228_0, Xn hw228_1, Xn hw228_2, Xn hw228_3, Xn hw228_4⟩ (fun hHeld => ?_)
    clear hK K
    refine Xno ?_
    refine Xpu 10 25 (XW.bs 16 2047) HT_.out ?_
    refine Xpu 11 26 (XW.bs 16 4095) HT_.out ?_
    refine Xta 12 27 (XW.bs 16 8191) HT_.out HW_.out hHeld ?_
    refine one_ (i := 13) (N := some 28) (XW.bs 16 16383) rfl rfl (one_of HT_.out (by kernel_rfl)) (by decide) (fun K hK => ?_)
    refine value_ (w1 := ?_) (v := ?_) (by rfl) rfl ?_ ?_
    rotate_left 2
    ·go_simp
     constructor
     ·rfl
     ·rfl
    refine hK.out _ _ ⟨(blk_cell (blk_alloc BK221.out _) 0).trans rfl, (blk_cell (blk_alloc BK221.out _) 1).trans rfl, (blk_cell (blk_alloc BK221.out _) 2).trans rfl, (blk_cell (blk_alloc BK222.out _) 0).trans rfl, (blk_cell (blk_alloc BK222.out _) 1).trans rfl, (blk_cell (blk_alloc BK222.out _) 2).trans rfl, (blk_cell (blk_alloc BK222.out _) 3).trans rfl, (blk_cell (blk_alloc BK222.out _) 4).trans rfl, (World.cell?_alloc_lt _ _ _ (World.block_lt_of_cell? _ _ (Xn hw226_0))).trans (Xn hw226_0), (World.cell?_alloc_lt _ _ _ (World.block_lt_of_cell? _ _ (Xn hw228_0))).trans (Xn hw228_0), (World.cell?_alloc_lt _ _ _ (World.block_lt_of_cell? _ _ (Xn hw228_1))).trans (Xn hw228_1), (World.cell?_alloc_lt _ _ _ (World.block_lt_of_cell? _ _ (Xn hw228_2))).trans (Xn hw228_2), (World.cell?_alloc_lt _ _ _ (World.block_lt_of_cell? _ _ (Xn hw228_3))).trans (Xn hw228_3), (World.cell?_alloc_lt _ _ _ (World.block_lt_of_cell? _ _ (Xn hw228_4))).trans (Xn hw228_4)⟩ (fun hHeld => ?_)
    clear hK K
    refine Xno ?_
    refine one_ (i := 14) (N := some 29) (XW.bs 16 32767) rfl rfl (one_of HT_.out (by kernel_rfl)) (by decide) (fun K hK => ?_)
    refine Kd.R_append_step (Kd.int .i64) (w0 := w) w.heap.size (by rfl) (.tmp 15) (.tmp 28) 37 3 (.int .i64 0) 8 rfl Try.underlying37 info3 rfl (by decide) (by omega) u5 x5_1 ((rd_T43 l0_2 t227).f1) [.int .i64 ((rd_T43 l0_2 t227).f1)] (fun _ => True) (fun _ => False) rfl rfl ?aP (fun _ hk => hk.elim) ?aF ?aO ?aB ?aS ?aL ?_
    (case aP => exact rfl)
    (case aB => exact Xi)
    (case aF => exact (fun _ _ => trivial))
    (case aO => exact (Xq HO_5))
    (case aS => exact (below_size Xi))
    (case aL => have := LMc12.out; omega)
    intro v230 w17 ho hb hg hat
    rw [← Ny229.out] at ho
    replace BK221 := Aside0.mk (blk_grown (g := gb221) (o := .cells #[.int .i64 a0_0, .int .i64 a0_1, .slice (some ad228) l0_2.length c0_2] 29 (0, 0)) (Xq' BK221) hg (Kd.R_ne HO_5.out BK221.out (by decide)))
    replace BK222 := Aside0.mk (blk_grown (g := gb222) (o := .cells #[.int .i64 a1_0, .int .i64 a1_1, .int .i64 a1_2, .string a1_3, .slice (some ad226) l1_4.length c1_4] 43 (0, 0)) (Xq' BK222) hg (Kd.R_ne HO_5.out BK222.out (by decide)))
    replace HB := Aside0.mk (hb)
    have HO231 := Aside0.mk (ho)
    clear HO_5
    clear ho hb hg hat
    refine hK.out _ _ ⟨(blk_cell BK221.out 0).trans rfl, (blk_cell BK221.out 1).trans rfl, (blk_cell BK221.out 2).trans rfl, (blk_cell BK222.out 0).trans rfl, (blk_cell BK222.out 1).trans rfl, (blk_cell BK222.out 2).trans rfl, (blk_cell BK222.out 3).trans rfl, (blk_cell BK222.out 4).trans rfl, Xn hw226_0, Xn hw228_0, Xn hw228_1, Xn hw228_2, Xn hw228_3, Xn hw228_4⟩ (fun hHeld => ?_)
    clear hK K
    refine Xno ?_
    refine Xpu 15 5 (XW.bs 16 65535) HT_.out ?_
    refine done_ (done_of HT_.out (by kernel_rfl)) ?_
    try go_wp2_with (fail)
    go_roundg k1
    case measure => have := HK1.out; omega
    case rel => exact ⟨(y229), (wrap64 (x6_1 + 1)), Xr, H', Xk1, (Xp' HO231), (Xp BK221), (Xp BK222), ⟨Xi⟩⟩
   ·obtain rfl := Option.some.inj H
    have hnb18 := NB222_221.out
    have hnc18 := NB221_222.out
    obtain ⟨hcz19_0, hcz19_1, hcz19_2, hcz19_3, hcz19_4⟩ := Xc5 BK222
    go_wp2
    go_ret
    exact ⟨_, Xe, Xq HO_5, Xi⟩

/-! ### spec_l03Least: function 122 -/
def spec_l03Least.f (a0 : Int) : Option (Int) := if a0 = 0 then (some 1) else (if a0 = 3 then (some 1) else (some 0))
set_option maxHeartbeats 8000000 in
set_option maxRecDepth 100000 in
theorem spec_l03Least.calls (a0 : Int) (r : Int) (w : World) (h : spec_l03Least.f a0 = some r) :
  Calls Try.prog 122 #[.int .i64 a0] w fun e w' => e = .returned (.int .i64 r) ∧ Drawn0 w w' := by
 have H : (if a0 = 0 then (some 1) else (if a0 = 3 then (some 1) else (some 0))) = some r := h
 clear h
 obtain ⟨c2, H⟩ | ⟨c2, H⟩ := Xiu H
 ·have c2b0 : (a0 == 0) = true := beq_iff_eq.mpr c2
  have c2b1 : (a0 != 0) = false := bne_eq_false_iff_eq.mpr c2
  clear c2
  obtain rfl := Option.some.inj H
  go_enter Try.func122, Try.ntmps122
  go_wp2
  go_ret
  exact ⟨Xr, Xdr⟩
 ·have c2b0 : (a0 == 0) = false := beq_eq_false_iff_ne.mpr c2
  have c2b1 : (a0 != 0) = true := bne_iff_ne.mpr c2
  obtain ⟨c3, H⟩ | ⟨c3, H⟩ := Xiu H
  ·have c3b0 : (a0 == 3) = true := beq_iff_eq.mpr c3
   have c3b1 : (a0 != 3) = false := bne_eq_false_iff_eq.mpr c3
   clear c3
   obtain rfl := Option.some.inj H
   go_enter Try.func122, Try.ntmps122
   go_wp2
   go_ret
   exact ⟨Xr, Xdr⟩
  ·have c3b0 : (a0 == 3) = false := beq_eq_false_iff_ne.mpr c3
   have c3b1 : (a0 != 3) = true := bne_iff_ne.mpr c3
   obtain rfl := Option.some.inj H
   go_enter Try.func122, Try.ntmps122
   go_wp2
   go_ret
   exact ⟨Xr, Xdr⟩

end Go.Proofs.Ytpdhccdmbdbdpaa.XA
